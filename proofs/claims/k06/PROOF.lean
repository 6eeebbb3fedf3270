import PyProof.Rows.All
import Wide.All
import OpenK.AllK
import Wide.FinOn
import KE.KStateDown
import HandS.ForMost
import HandS.ForExc
import HandS.Deep
import HandS.TupAny
import HandS.Flow
import HandS.Style
import KE.KDictKeyed
import KE.KDictWalk
import KE.KDictLaw
import KE.KDictLaws
import HandS.Zip
import KE.GoesMore
import HandS.DictComp
import HandS.ExcOwn
import HandS.WordsExc
import HandS.Property
import HandS.Defaults
import HandS.TupLen
import HandS.Conv
import HandS.IsInst
import HandS.Star
import HandS.List
import KE.SortData
import KE.DataCmp
import KE.DataFind
import HandS.DictTup
import HandS.Text
import PyProof.Rows.TupDisplay
import HandS.Keys
import KE.KDictPairs
import HandS.HeadHook1
import HandS.HeadHook2
import HandS.HeadEnd
import HandS.Head0
import HandS.Head1
import HandS.Head2
import PySem.Challenge.RW_lastcharge_k06_known
set_option Elab.async false
set_option linter.all false
set_option autoImplicit false
set_option maxRecDepth 100000
set_option maxHeartbeats 4000000
/-! LT: lite values and a lite heap, related to the layer's heap; a def's body as a plain function of them. -/
namespace LT
open PySem PySem.Spec L2

/-- a value: what does not change is told whole -/
inductive LV where
  | non
  | bl (b : Bool)
  | int (i : Int)
  | str (x : Str)
  | tup (xs : List LV)
  | ref (n : Nat)

/-- an object -/
inductive LO where
  | lst (xs : List LV)
  | fz (xs : List LV)
  | dct (v : Nat) (kvs : List (LV × LV))
  | obj (c : Nat) (fs : List (Nat × LV))

abbrev LH := List LO
abbrev LS := List (Option LV)

/-- an exception: its class, its fields -/
structure XV where
  c : Nat
  fs : Option (List (Nat × LV))

inductive Rs (α : Type) where
  | ok (a : α) (L : LH)
  | ex (e : XV) (L : LH)
  | bad

/-- what a program's classes and attributes are -/
structure Gm where
  cls : Nat → Addr
  att : Nat → Str
  inj : ∀ i j, att i = att j → i = j

def Rs.bind {α β : Type} (r : Rs α) (f : α → LH → Rs β) : Rs β :=
  match r with
  | .ok a L => f a L
  | .ex e L => .ex e L
  | .bad => .bad
@[simp] theorem Rs.bind_ok {α β : Type} (a : α) (L : LH) (f : α → LH → Rs β) : (Rs.ok a L).bind f = f a L := rfl
@[simp] theorem Rs.bind_ex {α β : Type} (e : XV) (L : LH) (f : α → LH → Rs β) : (Rs.ex e L : Rs α).bind f = .ex e L := rfl
@[simp] theorem Rs.bind_bad {α β : Type} (f : α → LH → Rs β) : (Rs.bad : Rs α).bind f = .bad := rfl

/-! ### the relation -/
mutual
def VRel (K : PySem.W.Frag) (μ : List Addr) (H : Hp) : LV → V → Prop
  | .non, v => v = .non
  | .bl b, v => v = .bl b
  | .int i, v => v = .int i
  | .str x, v => v = .str x
  | .tup xs, v => ∃ a vs, v = .ref a ∧ SqT K H a vs ∧ VRels K μ H xs vs
  | .ref n, v => ∃ a, μ[n]? = some a ∧ v = .ref a
def VRels (K : PySem.W.Frag) (μ : List Addr) (H : Hp) : List LV → List V → Prop
  | [], vs => vs = []
  | x :: xs, vs => ∃ v r, vs = v :: r ∧ VRel K μ H x v ∧ VRels K μ H xs r
end

/-- what may have come about: more objects, the objects that are not ours as they were, the tuples too; a dict whose number is the same is the same -/
structure Le (μ : List Addr) (L : LH) (H : Hp) (μ' : List Addr) (L' : LH) (H' : Hp) : Prop where
  pre : ∃ more, μ' = μ ++ more
  keep : ∀ b o, H b = some o → b ∉ μ → H' b = some o ∧ b ∉ μ'
  tups : ∀ a xs, Rd H a (.tup xs) → Rd H' a (.tup xs)
  dcts : ∀ (n : Nat) a v kvs, μ[n]? = some a → L[n]? = some (.dct v kvs) → ∃ v' kvs', L'[n]? = some (.dct v' kvs') ∧ v ≤ v' ∧ (v = v' → kvs' = kvs ∧ H' a = H a)
theorem Le.refl (μ : List Addr) (L : LH) (H : Hp) : Le μ L H μ L H := ⟨⟨[], (List.append_nil _).symm⟩, fun _ _ h n => ⟨h, n⟩, fun _ _ h => h, fun n a v kvs _ h => ⟨v, kvs, h, Nat.le_refl _, fun _ => ⟨rfl, rfl⟩⟩⟩
theorem Le.get {μ μ' : List Addr} {L L' : LH} {H H' : Hp} (l : Le μ L H μ' L' H') {n : Nat} {a : Addr} (h : μ[n]? = some a) : μ'[n]? = some a := by
  obtain ⟨m, rfl⟩ := l.pre
  rw [List.getElem?_append_left (List.getElem?_eq_some_iff.mp h).1]
  exact h
theorem Le.trans {μ μ1 μ2 : List Addr} {L L1 L2 : LH} {H H1 H2 : Hp} (a : Le μ L H μ1 L1 H1) (b : Le μ1 L1 H1 μ2 L2 H2) : Le μ L H μ2 L2 H2 := by
  refine ⟨?_, fun c o h n => ?_, fun c xs h => b.tups c xs (a.tups c xs h), fun n c v kvs h1 h2 => ?_⟩
  · obtain ⟨m1, rfl⟩ := a.pre
    obtain ⟨m2, rfl⟩ := b.pre
    exact ⟨m1 ++ m2, List.append_assoc _ _ _⟩
  · obtain ⟨h1, n1⟩ := a.keep c o h n
    exact b.keep c o h1 n1
  · obtain ⟨v1, k1, e1, l1, q1⟩ := a.dcts n c v kvs h1 h2
    obtain ⟨v2, k2, e2, l2, q2⟩ := b.dcts n c v1 k1 (a.get h1) e1
    refine ⟨v2, k2, e2, Nat.le_trans l1 l2, fun e => ?_⟩
    have e01 : v = v1 := by omega
    have e12 : v1 = v2 := by omega
    obtain ⟨p1, p2⟩ := q1 e01
    obtain ⟨p3, p4⟩ := q2 e12
    exact ⟨p3.trans p1, p4.trans p2⟩
theorem SqT.le {K : PySem.W.Frag} {μ μ' : List Addr} {L L' : LH} {H H' : Hp} {a : Addr} {vs : List V} (l : Le μ L H μ' L' H') (h : SqT K H a vs) : SqT K H' a vs :=
  h.imp (l.tups a vs) id
mutual
theorem VRel.le {K : PySem.W.Frag} {μ μ' : List Addr} {L L' : LH} {H H' : Hp} (l : Le μ L H μ' L' H') : ∀ (x : LV) {v : V}, VRel K μ H x v → VRel K μ' H' x v
  | .non, _, h => h
  | .bl _, _, h => h
  | .int _, _, h => h
  | .str _, _, h => h
  | .tup xs, _, h => by
    obtain ⟨a, vs, e, s, r⟩ := h
    exact ⟨a, vs, e, SqT.le l s, VRels.le l xs r⟩
  | .ref n, _, h => by
    obtain ⟨a, e, r⟩ := h
    exact ⟨a, l.get e, r⟩
theorem VRels.le {K : PySem.W.Frag} {μ μ' : List Addr} {L L' : LH} {H H' : Hp} (l : Le μ L H μ' L' H') : ∀ (xs : List LV) {vs : List V}, VRels K μ H xs vs → VRels K μ' H' xs vs
  | [], _, h => h
  | x :: xs, _, h => by
    obtain ⟨v, r, e, h1, h2⟩ := h
    exact ⟨v, r, e, VRel.le l x h1, VRels.le l xs h2⟩
end

/-! ### dicts -/
mutual
/-- a key, up to == -/
def nk : LV → NestedKey
  | .non => .none
  | .bl b => .num (if b = true then 1 else 0)
  | .int i => .num i
  | .str x => .text x
  | .tup xs => .tup (nks xs)
  | .ref _ => .none
def nks : List LV → List NestedKey
  | [] => []
  | x :: xs => nk x :: nks xs
end
mutual
/-- it holds no object -/
def flat : LV → Bool
  | .tup xs => flats xs
  | .ref _ => false
  | _ => true
def flats : List LV → Bool
  | [] => true
  | x :: xs => flat x && flats xs
end
def isTup : LV → Bool
  | .tup _ => true
  | _ => false
/-- a key as our dicts have them: a tuple no deeper than 8, an int, a text -/
def okKey : LV → Bool
  | .tup xs => flats xs && Nat.ble (nk (.tup xs)).depth 8
  | .int _ => true
  | .str _ => true
  | _ => false
def hashK (w : World) : LV → Int
  | .int i => hashInt i
  | .str x => hashStr w x
  | x => (nk x).hash w

/-- an object as it stands -/
def dX (a : Addr) (o : Obj) : HO := .ext fun h => h.get? a = some o
theorem dX_ok {P : Program} {w : World} {H : Hp} {h : Heap} {a : Addr} {o : Obj} (e : h.get? a = some o) : ObjOk P w H h a (dX a o) :=
  ⟨e, ⟨o, e⟩, fun _ _ p k => k o p⟩
theorem dX_at {P : Program} {w : World} {H : Hp} {h : Heap} {a : Addr} {o : Obj} (x : HOk P w H h) (e : H a = some (dX a o)) : h.get? a = some o := (x a _ e).1

def ERel (w : World) (K : PySem.W.Frag) (μ : List Addr) (H : Hp) (p : LV × LV) (e : DictEntry) : Prop :=
  (∃ k, VRel K μ H p.1 k ∧ RelV k e.key) ∧ (∃ v, VRel K μ H p.2 v ∧ RelV v e.val) ∧ e.hash = hashK w p.1 ∧ okKey p.1 = true
structure DRel (w : World) (K : PySem.W.Frag) (μ : List Addr) (H : Hp) (o : Obj) (kvs : List (LV × LV)) : Prop where
  ex : o.ExactDict
  es : ∃ es ep, o.data = .dict es ep ∧ es.size ≤ sizeLine ∧ Paired (ERel w K μ H) kvs es.toList
  nd : (kvs.map fun p => nk p.1).Nodup
  kd : (kvs.all fun p => isTup p.1) = true ∨ (kvs.all fun p => !isTup p.1) = true
def FRel (G : Gm) (K : PySem.W.Frag) (μ : List Addr) (H : Hp) : List (Nat × LV) → List (Str × V) → Prop :=
  Paired fun (p : Nat × LV) (q : Str × V) => q.1 = G.att p.1 ∧ VRel K μ H p.2 q.2

def ORel (G : Gm) (w : World) (K : PySem.W.Frag) (μ : List Addr) (H : Hp) (a : Addr) : LO → Prop
  | .lst xs => ∃ vs, H a = some (.lst vs) ∧ VRels K μ H xs vs
  | .fz xs => ∃ o vs, H a = some (.frz o (.lst vs)) ∧ VRels K μ H xs vs
  | .dct _ kvs => ∃ o, H a = some (dX a o) ∧ (a == sysModules) = false ∧ DRel w K μ H o kvs
  | .obj c fs => ∃ dx gs, H a = some (.ins (G.cls c) dx gs) ∧ FRel G K μ H fs gs

structure HRel (G : Gm) (w : World) (K : PySem.W.Frag) (μ : List Addr) (L : LH) (H : Hp) : Prop where
  len : μ.length = L.length
  nd : μ.Nodup
  obj : ∀ (n : Nat) a o, μ[n]? = some a → L[n]? = some o → ORel G w K μ H a o

def SRel (K : PySem.W.Frag) (μ : List Addr) (H : Hp) (l : LS) (σ : St) : Prop :=
  l.length = σ.length ∧ ∀ (i : Nat) x, l[i]? = some (some x) → ∃ v, σ[i]? = some (some v) ∧ VRel K μ H x v

theorem ERel.le {w : World} {K : PySem.W.Frag} {μ μ' : List Addr} {L L' : LH} {H H' : Hp} (l : Le μ L H μ' L' H') {p : LV × LV} {e : DictEntry} (h : ERel w K μ H p e) : ERel w K μ' H' p e := by
  obtain ⟨⟨k, a, b⟩, ⟨v, c, d⟩, r⟩ := h
  exact ⟨⟨k, VRel.le l _ a, b⟩, ⟨v, VRel.le l _ c, d⟩, r⟩
theorem DRel.le {w : World} {K : PySem.W.Frag} {μ μ' : List Addr} {L L' : LH} {H H' : Hp} (l : Le μ L H μ' L' H') {o : Obj} {kvs : List (LV × LV)} (h : DRel w K μ H o kvs) : DRel w K μ' H' o kvs := by
  obtain ⟨ex, ⟨es, ep, a, b, c⟩, nd, kd⟩ := h
  exact ⟨ex, ⟨es, ep, a, b, Paired.mapP c fun _ _ z => z.le l⟩, nd, kd⟩
theorem FRel.le {G : Gm} {K : PySem.W.Frag} {μ μ' : List Addr} {L L' : LH} {H H' : Hp} (l : Le μ L H μ' L' H') {fs : List (Nat × LV)} {gs : List (Str × V)} (h : FRel G K μ H fs gs) : FRel G K μ' H' fs gs :=
  Paired.mapP h fun _ _ z => ⟨z.1, VRel.le l _ z.2⟩
theorem SRel.le {K : PySem.W.Frag} {μ μ' : List Addr} {L L' : LH} {H H' : Hp} (l : Le μ L H μ' L' H') {s : LS} {σ : St} (h : SRel K μ H s σ) : SRel K μ' H' s σ :=
  ⟨h.1, fun i x e => let ⟨v, a, b⟩ := h.2 i x e; ⟨v, a, VRel.le l x b⟩⟩
/-- an object stays what it is while its own place stays -/
theorem ORel.le {G : Gm} {w : World} {K : PySem.W.Frag} {μ μ' : List Addr} {L L' : LH} {H H' : Hp} (l : Le μ L H μ' L' H') {a : Addr} {o : LO} (h : ORel G w K μ H a o) (e : H' a = H a) : ORel G w K μ' H' a o := by
  cases o with
  | lst xs => obtain ⟨vs, p, q⟩ := h; exact ⟨vs, e.trans p, VRels.le l _ q⟩
  | fz xs => obtain ⟨o, vs, p, q⟩ := h; exact ⟨o, vs, e.trans p, VRels.le l _ q⟩
  | dct v kvs => obtain ⟨o, p, s, q⟩ := h; exact ⟨o, e.trans p, s, q.le l⟩
  | obj c fs => obtain ⟨dx, gs, p, q⟩ := h; exact ⟨dx, gs, e.trans p, q.le l⟩
theorem ORel.there {G : Gm} {w : World} {K : PySem.W.Frag} {μ : List Addr} {H : Hp} {a : Addr} {o : LO} (h : ORel G w K μ H a o) : ∃ u, H a = some u ∧ (∀ xs, u ≠ .tup xs) ∧ (∀ ob xs, u ≠ .frz ob (.tup xs)) := by
  cases o with
  | lst xs => obtain ⟨vs, p, q⟩ := h; exact ⟨_, p, (fun _ z => nomatch z), (fun _ _ z => nomatch z)⟩
  | fz xs => obtain ⟨o, vs, p, q⟩ := h; exact ⟨_, p, (fun _ z => nomatch z), (fun _ _ z => by cases z)⟩
  | dct v kvs => obtain ⟨o, p, s, q⟩ := h; exact ⟨_, p, (fun _ z => nomatch z), (fun _ _ z => nomatch z)⟩
  | obj c fs => obtain ⟨dx, gs, p, q⟩ := h; exact ⟨_, p, (fun _ z => nomatch z), (fun _ _ z => nomatch z)⟩
section
variable {G : Gm} {w : World} {K : PySem.W.Frag} {μ : List Addr} {L : LH} {H : Hp}
theorem HRel.of (h : HRel G w K μ L H) {n : Nat} {o : LO} (e : L[n]? = some o) : ∃ a, μ[n]? = some a ∧ ORel G w K μ H a o := by
  have hn : n < μ.length := by rw [h.len]; exact (List.getElem?_eq_some_iff.mp e).1
  exact ⟨μ[n], List.getElem?_eq_getElem hn, h.obj n _ o (List.getElem?_eq_getElem hn) e⟩
theorem HRel.at (h : HRel G w K μ L H) {n : Nat} {a : Addr} (e : μ[n]? = some a) : ∃ o, L[n]? = some o ∧ ORel G w K μ H a o := by
  have hn : n < L.length := by rw [← h.len]; exact (List.getElem?_eq_some_iff.mp e).1
  exact ⟨L[n], List.getElem?_eq_getElem hn, h.obj n a _ e (List.getElem?_eq_getElem hn)⟩
/-- ours are tracked -/
theorem HRel.trk (h : HRel G w K μ L H) {a : Addr} (e : a ∈ μ) : ∃ u, H a = some u ∧ (∀ xs, u ≠ .tup xs) ∧ (∀ ob xs, u ≠ .frz ob (.tup xs)) := by
  obtain ⟨n, hn⟩ := List.getElem?_of_mem e
  obtain ⟨o, _, r⟩ := h.at hn
  exact r.there
theorem HRel.new (h : HRel G w K μ L H) {p : Addr} (e : H p = none) : p ∉ μ := fun m => by
  obtain ⟨u, q, _⟩ := h.trk m
  rw [e] at q
  cases q
theorem rd_tup_upd {p : Addr} {o : HO} (hp : H p = none ∨ (∃ u, H p = some u ∧ (∀ xs, u ≠ .tup xs) ∧ ∀ ob xs, u ≠ .frz ob (.tup xs))) : ∀ a xs, Rd H a (.tup xs) → Rd (upd H p o) a (.tup xs) := fun a xs r => by
  have ne : a ≠ p := fun z => by
    subst z
    rcases hp with q | ⟨u, q, n1, n2⟩
    · rcases r with r | ⟨_, r⟩ <;> rw [q] at r <;> cases r
    · rcases r with r | ⟨_, r⟩
      · rw [q] at r
        exact n1 xs (Option.some.inj r)
      · rw [q] at r
        exact n2 _ xs (Option.some.inj r)
  unfold Rd
  rw [upd_ne ne]
  exact r
/-- a new thing that is not ours (a tuple) -/
theorem HRel.tup (h : HRel G w K μ L H) {p : Addr} (e : H p = none) (o : HO) : Le μ L H μ L (upd H p o) ∧ HRel G w K μ L (upd H p o) := by
  have hl : Le μ L H μ L (upd H p o) := ⟨⟨[], (List.append_nil _).symm⟩, fun b u hb n => ⟨by rw [upd_ne (ne_of_none hb e)]; exact hb, n⟩, rd_tup_upd (.inl e), fun n a v kvs hn hd => ⟨v, kvs, hd, Nat.le_refl _, fun _ => ⟨rfl, upd_ne fun z => h.new e (z ▸ List.mem_of_getElem? hn)⟩⟩⟩
  exact ⟨hl, h.len, h.nd, fun n a u ha hu => (h.obj n a u ha hu).le hl (upd_ne fun z => h.new e (z ▸ List.mem_of_getElem? ha))⟩
/-- a new object of ours -/
theorem HRel.obj_new (h : HRel G w K μ L H) {p : Addr} (e : H p = none) {o : HO} {u : LO} (ho : (∀ xs, o ≠ .tup xs)) (hu : ∀ μ' L', Le μ L H μ' L' (upd H p o) → ORel G w K μ' (upd H p o) p u) :
    Le μ L H (μ ++ [p]) (L ++ [u]) (upd H p o) ∧ HRel G w K (μ ++ [p]) (L ++ [u]) (upd H p o) := by
  have np := h.new e
  have hl : Le μ L H (μ ++ [p]) (L ++ [u]) (upd H p o) := ⟨⟨[p], rfl⟩, fun b u hb n => ⟨by rw [upd_ne (ne_of_none hb e)]; exact hb, by
    rw [List.mem_append, List.mem_singleton]
    rintro (z | z)
    · exact n z
    · rw [z, e] at hb; cases hb⟩, rd_tup_upd (.inl e), fun n a v kvs hn hd => ⟨v, kvs, by rw [List.getElem?_append_left (List.getElem?_eq_some_iff.mp hd).1]; exact hd, Nat.le_refl _, fun _ => ⟨rfl, upd_ne fun z => np (z ▸ List.mem_of_getElem? hn)⟩⟩⟩
  refine ⟨hl, by simp [h.len], ?_, fun n a q ha hq => ?_⟩
  · rw [List.nodup_append]
    exact ⟨h.nd, by simp, fun a ha b hb z => np (by rw [List.mem_singleton] at hb; rw [← hb, ← z]; exact ha)⟩
  · by_cases hn : n < μ.length
    · rw [List.getElem?_append_left hn] at ha
      rw [List.getElem?_append_left (by rw [← h.len]; exact hn)] at hq
      exact (h.obj n a q ha hq).le hl (upd_ne fun z => np (z ▸ List.mem_of_getElem? ha))
    · have hb : n = μ.length := by
        have := (List.getElem?_eq_some_iff.mp ha).1
        simp at this
        omega
      subst hb
      rw [List.getElem?_append_right (Nat.le_refl _), Nat.sub_self] at ha
      rw [h.len, List.getElem?_append_right (Nat.le_refl _), Nat.sub_self] at hq
      cases ha
      cases hq
      exact hu _ _ hl
/-- an object of ours is changed -/
theorem HRel.obj_set (h : HRel G w K μ L H) {n : Nat} {a : Addr} (ha : μ[n]? = some a) {o : HO} {u : LO} (hu : ∀ L', Le μ L H μ L' (upd H a o) → ORel G w K μ (upd H a o) a u)
    (hd : ∀ v kvs, L[n]? = some (.dct v kvs) → ∃ v' kvs', u = .dct v' kvs' ∧ v < v') : Le μ L H μ (L.set n u) (upd H a o) ∧ HRel G w K μ (L.set n u) (upd H a o) := by
  have hin : a ∈ μ := List.mem_of_getElem? ha
  have hnl : n < L.length := by rw [← h.len]; exact (List.getElem?_eq_some_iff.mp ha).1
  have hne : ∀ m b, μ[m]? = some b → m ≠ n → b ≠ a := fun m b hm ne z => by
    subst z
    exact ne ((List.getElem?_inj (List.getElem?_eq_some_iff.mp hm).1 h.nd).mp (hm.trans ha.symm))
  have hl : Le μ L H μ (L.set n u) (upd H a o) := by
    refine ⟨⟨[], (List.append_nil _).symm⟩, fun b u hb nb => ⟨?_, nb⟩, rd_tup_upd (.inr (h.trk hin)), fun m b v kvs hm hdm => ?_⟩
    · have ne : b ≠ a := fun z => nb (by rw [z]; exact hin)
      rw [upd_ne ne]; exact hb
    · by_cases e : m = n
      · subst e
        obtain ⟨v', kvs', e1, e2⟩ := hd v kvs hdm
        exact ⟨v', kvs', by rw [List.getElem?_set_self hnl, e1], Nat.le_of_lt e2, fun z => by omega⟩
      · exact ⟨v, kvs, by rw [List.getElem?_set_ne (Ne.symm e)]; exact hdm, Nat.le_refl _, fun _ => ⟨rfl, upd_ne (hne m b hm e)⟩⟩
  refine ⟨hl, by simp [h.len], h.nd, fun m b q hm hq => ?_⟩
  by_cases e : m = n
  · subst e
    rw [List.getElem?_set_self hnl] at hq
    rw [ha] at hm
    cases hm
    cases hq
    exact hu _ hl
  · rw [List.getElem?_set_ne (Ne.symm e)] at hq
    exact (h.obj m b q hm hq).le hl (upd_ne (hne m b hm e))
end
end LT

set_option Elab.async false
set_option linter.all false
set_option autoImplicit false
set_option maxRecDepth 100000
set_option maxHeartbeats 4000000
namespace LT
open PySem PySem.Spec L2

abbrev St := L2.St
/-! ### what is wanted behind a piece of the text -/
def XRel (G : Gm) (K : PySem.W.Frag) (μ : List Addr) (H : Hp) (e : XV) (c : Value) (d : Option Addr) : Prop :=
  c = .ref (G.cls e.c) ∧ match e.fs with
    | none => True
    | some fs => ∃ dd gs, d = some dd ∧ H dd = some (.xd gs) ∧ FRel G K μ H fs gs
abbrev Rl (α β : Type) := List Addr → Hp → α → β → Prop
def Out {α β : Type} (R : Rl α β) (G : Gm) (w : World) (K : PySem.W.Frag) (W : WX) (σ : St) (Q : β → Hp → Prop) (μ : List Addr) (L : LH) (H : Hp) : Rs α → Prop
  | .ok x L' => ∀ μ' v H', Le μ L H μ' L' H' → HRel G w K μ' L' H' → R μ' H' x v → Q v H'
  | .ex e L' => ∀ μ' H' c d, Le μ L H μ' L' H' → HRel G w K μ' L' H' → XRel G K μ' H' e c d → W c d σ H'
  | .bad => False
abbrev Lm (α : Type) := LS → LH → Rs α
def TX {α β : Type} (R : Rl α β) (G : Gm) (w : World) (K : PySem.W.Frag) (W : WX) (m : Lm α) : St → Hp → (β → Hp → Prop) → Prop := fun σ H Q =>
  ∃ μ l L, SRel K μ H l σ ∧ HRel G w K μ L H ∧ Out R G w K W σ Q μ L H (m l L)
def RV (K : PySem.W.Frag) : Rl LV V := fun μ H x v => VRel K μ H x v
def RVs (K : PySem.W.Frag) : Rl (List LV) (List V) := fun μ H x v => VRels K μ H x v
def RB : Rl Bool Bool := fun _ _ a b => b = a
abbrev JE (X : Cx) (G : Gm) (W : WX) (e : Expr) (m : Lm LV) : Prop := PE X e (TX (RV X.K) G X.w X.K W m)
abbrev JA (X : Cx) (G : Gm) (W : WX) (es : List Expr) (m : Lm (List LV)) : Prop := PA X es (TX (RVs X.K) G X.w X.K W m)
abbrev JT (X : Cx) (G : Gm) (W : WX) (e : Expr) (m : Lm Bool) : Prop := PT X e (TX RB G X.w X.K W m)
abbrev JW (X : Cx) (G : Gm) (W : WX) (e : Expr) (m : Lm Bool) : Prop := PW X e (TX RB G X.w X.K W m)

theorem PE.imp {X : Cx} {e : Expr} {t t' : TE} (h : PE X e t) (k : ∀ σ H Q, t' σ H Q → t σ H Q) : PE X e t' := ⟨fun pins s σ H Q I q => h.run pins s σ H Q I (k σ H Q q)⟩
theorem PT.imp {X : Cx} {e : Expr} {t t' : TT} (h : PT X e t) (k : ∀ σ H Q, t' σ H Q → t σ H Q) : PT X e t' := ⟨fun pins s σ H Q I q => h.run pins s σ H Q I (k σ H Q q)⟩
theorem PW.imp {X : Cx} {e : Expr} {t t' : TT} (h : PW X e t) (k : ∀ σ H Q, t' σ H Q → t σ H Q) : PW X e t' := ⟨fun whole pins s σ H Q I q => h.run whole pins s σ H Q I (k σ H Q q)⟩
theorem PA.imp {X : Cx} {e : List Expr} {t t' : TA} (h : PA X e t) (k : ∀ σ H Q, t' σ H Q → t σ H Q) : PA X e t' := ⟨fun pos pins s σ H Q I q => h.run pos pins s σ H Q I (k σ H Q q)⟩
theorem PS.imp {X : Cx} {e : Stmt} {t t' : TS} (h : PS X e t) (k : ∀ D σ H, t' D σ H → t D σ H) : PS X e t' := ⟨fun pins s σ H D I q => h.run pins s σ H D I (k D σ H q)⟩
theorem PSs.imp {X : Cx} {e : List Stmt} {t t' : TS} (h : PSs X e t) (k : ∀ D σ H, t' D σ H → t D σ H) : PSs X e t' := ⟨fun pins s σ H D I q => h.run pins s σ H D I (k D σ H q)⟩

section
variable {G : Gm} {w : World} {K : PySem.W.Frag} {W : WX} {σ : St} {μ : List Addr} {l : LS} {L : LH} {H : Hp}
theorem Out.shift {α β : Type} {R : Rl α β} {Q : β → Hp → Prop} {r : Rs α} {μ1 : List Addr} {L1 : LH} {H1 : Hp} (le : Le μ L H μ1 L1 H1) (o : Out R G w K W σ Q μ L H r) : Out R G w K W σ Q μ1 L1 H1 r := by
  cases r with
  | ok x L' => exact fun μ' v H' a b c => o μ' v H' (le.trans a) b c
  | ex e L' => exact fun μ' H' c d a b x => o μ' H' c d (le.trans a) b x
  | bad => exact o
/-- the value here -/
theorem Out.here {α β : Type} {R : Rl α β} {Q : β → Hp → Prop} {x : α} {v : β} (o : Out R G w K W σ Q μ L H (.ok x L)) (h : HRel G w K μ L H) (r : R μ H x v) : Q v H := o μ v H (Le.refl _ _ _) h r
/-- what a part hands on -/
def Nx {α β : Type} (R : Rl α β) (G : Gm) (w : World) (K : PySem.W.Frag) (σ : St) (l : LS) (μ : List Addr) (L : LH) (H : Hp) (C : α → List Addr → LH → Hp → Prop) (v : β) (H1 : Hp) : Prop :=
  ∃ μ1 L1 x, Le μ L H μ1 L1 H1 ∧ SRel K μ1 H1 l σ ∧ HRel G w K μ1 L1 H1 ∧ R μ1 H1 x v ∧ C x μ1 L1 H1
theorem TX.bind {α β α' β' : Type} {R : Rl α β} {R' : Rl α' β'} {Q : β' → Hp → Prop} {m : Lm α} {k : α → LH → Rs α'} (s : SRel K μ H l σ) (h : HRel G w K μ L H) (o : Out R' G w K W σ Q μ L H ((m l L).bind k)) :
    TX R G w K W m σ H (Nx R G w K σ l μ L H fun x μ1 L1 H1 => Out R' G w K W σ Q μ1 L1 H1 (k x L1)) := by
  refine ⟨μ, l, L, s, h, ?_⟩
  cases e : m l L with
  | ok x L1 =>
    rw [e] at o
    exact fun μ1 v H1 a b c => ⟨μ1, L1, x, a, s.le a, b, c, Out.shift a o⟩
  | ex x L1 =>
    rw [e] at o
    exact o
  | bad =>
    rw [e] at o
    exact o.elim
theorem TX.mono {α β : Type} {R : Rl α β} {Q Q' : β → Hp → Prop} {m : Lm α} (t : TX R G w K W m σ H Q) (k : ∀ v H', Q v H' → Q' v H') : TX R G w K W m σ H Q' := by
  obtain ⟨μ, l, L, s, h, o⟩ := t
  refine ⟨μ, l, L, s, h, ?_⟩
  cases e : m l L with
  | ok x L1 => rw [e] at o; exact fun μ' v H' a b c => k v H' (o μ' v H' a b c)
  | ex x L1 => rw [e] at o; exact o
  | bad => rw [e] at o; exact o
theorem TX.run {α β : Type} {R : Rl α β} {Q : β → Hp → Prop} {m : Lm α} (s : SRel K μ H l σ) (h : HRel G w K μ L H) (o : Out R G w K W σ Q μ L H (m l L)) : TX R G w K W m σ H Q := ⟨μ, l, L, s, h, o⟩
end

/-! ### statements -/
inductive Rt where
  | nx (l : LS) (L : LH)
  | rt (x : LV) (L : LH)
  | bk (l : LS) (L : LH)
  | ct (l : LS) (L : LH)
  | ex (e : XV) (l : LS) (L : LH)
  | bad
abbrev Ls := LS → LH → Rt
def Rs.thn {α : Type} (r : Rs α) (l : LS) (k : α → LH → Rt) : Rt := match r with
  | .ok x L => k x L
  | .ex e L => .ex e l L
  | .bad => .bad
@[simp] theorem Rs.thn_ok {α : Type} (a : α) (l : LS) (L : LH) (f : α → LH → Rt) : (Rs.ok a L).thn l f = f a L := rfl
@[simp] theorem Rs.thn_ex {α : Type} (e : XV) (l : LS) (L : LH) (f : α → LH → Rt) : (Rs.ex e L : Rs α).thn l f = .ex e l L := rfl
@[simp] theorem Rs.thn_bad {α : Type} (l : LS) (f : α → LH → Rt) : (Rs.bad : Rs α).thn l f = .bad := rfl
/-- one statement behind another -/
def Rt.seq (r : Rt) (k : LS → LH → Rt) : Rt := match r with
  | .nx l L => k l L
  | r => r
@[simp] theorem Rt.seq_nx (l : LS) (L : LH) (k : LS → LH → Rt) : (Rt.nx l L).seq k = k l L := rfl
@[simp] theorem Rt.seq_rt (x : LV) (L : LH) (k : LS → LH → Rt) : (Rt.rt x L).seq k = .rt x L := rfl
@[simp] theorem Rt.seq_bk (l : LS) (L : LH) (k : LS → LH → Rt) : (Rt.bk l L).seq k = .bk l L := rfl
@[simp] theorem Rt.seq_ct (l : LS) (L : LH) (k : LS → LH → Rt) : (Rt.ct l L).seq k = .ct l L := rfl
@[simp] theorem Rt.seq_ex (e : XV) (l : LS) (L : LH) (k : LS → LH → Rt) : (Rt.ex e l L).seq k = .ex e l L := rfl
@[simp] theorem Rt.seq_bad (k : LS → LH → Rt) : Rt.bad.seq k = .bad := rfl
def OutS (G : Gm) (w : World) (K : PySem.W.Frag) (W : WX) (D : Ends) (μ : List Addr) (L : LH) (H : Hp) : Rt → Prop
  | .nx l L' => ∀ μ' σ' H', Le μ L H μ' L' H' → HRel G w K μ' L' H' → SRel K μ' H' l σ' → D.nx σ' H'
  | .rt x L' => ∀ μ' v H', Le μ L H μ' L' H' → HRel G w K μ' L' H' → VRel K μ' H' x v → D.rt v H'
  | .bk l L' => ∀ μ' σ' H', Le μ L H μ' L' H' → HRel G w K μ' L' H' → SRel K μ' H' l σ' → D.bk σ' H'
  | .ct l L' => ∀ μ' σ' H', Le μ L H μ' L' H' → HRel G w K μ' L' H' → SRel K μ' H' l σ' → D.ct σ' H'
  | .ex e l L' => ∀ μ' σ' H' c d, Le μ L H μ' L' H' → HRel G w K μ' L' H' → SRel K μ' H' l σ' → XRel G K μ' H' e c d → W c d σ' H'
  | .bad => False
def TSx (G : Gm) (w : World) (K : PySem.W.Frag) (W : WX) (m : Ls) : TS := fun D σ H => ∃ μ l L, SRel K μ H l σ ∧ HRel G w K μ L H ∧ OutS G w K W D μ L H (m l L)
abbrev JS (X : Cx) (G : Gm) (W : WX) (st : Stmt) (m : Ls) : Prop := PS X st (TSx G X.w X.K W m)
abbrev JB (X : Cx) (G : Gm) (W : WX) (st : List Stmt) (m : Ls) : Prop := PSs X st (TSx G X.w X.K W m)
section
variable {G : Gm} {w : World} {K : PySem.W.Frag} {W : WX} {σ : St} {μ : List Addr} {l : LS} {L : LH} {H : Hp} {D : Ends}
theorem OutS.shift {r : Rt} {μ1 : List Addr} {L1 : LH} {H1 : Hp} (le : Le μ L H μ1 L1 H1) (o : OutS G w K W D μ L H r) : OutS G w K W D μ1 L1 H1 r := by
  cases r with
  | nx l L' => exact fun μ' v H' a b c => o μ' v H' (le.trans a) b c
  | rt l L' => exact fun μ' v H' a b c => o μ' v H' (le.trans a) b c
  | bk l L' => exact fun μ' v H' a b c => o μ' v H' (le.trans a) b c
  | ct l L' => exact fun μ' v H' a b c => o μ' v H' (le.trans a) b c
  | ex e l L' => exact fun μ' σ' H' c d a b s x => o μ' σ' H' c d (le.trans a) b s x
  | bad => exact o
theorem TX.thn {α β : Type} {R : Rl α β} {m : Lm α} {k : α → LH → Rt} (s : SRel K μ H l σ) (h : HRel G w K μ L H) (o : OutS G w K W D μ L H ((m l L).thn l k)) :
    TX R G w K W m σ H (Nx R G w K σ l μ L H fun x μ1 L1 H1 => OutS G w K W D μ1 L1 H1 (k x L1)) := by
  refine ⟨μ, l, L, s, h, ?_⟩
  cases e : m l L with
  | ok x L1 =>
    rw [e] at o
    exact fun μ1 v H1 a b c => ⟨μ1, L1, x, a, s.le a, b, c, OutS.shift a o⟩
  | ex x L1 =>
    rw [e] at o
    exact fun μ' H' c d a b x => o μ' σ H' c d a b (s.le a) x
  | bad =>
    rw [e] at o
    exact o.elim
theorem TSx.run {m : Ls} (s : SRel K μ H l σ) (h : HRel G w K μ L H) (o : OutS G w K W D μ L H (m l L)) : TSx G w K W m D σ H := ⟨μ, l, L, s, h, o⟩
theorem TSx.seq {m : Ls} {k : LS → LH → Rt} (s : SRel K μ H l σ) (h : HRel G w K μ L H) (o : OutS G w K W D μ L H ((m l L).seq k)) :
    TSx G w K W m { D with nx := fun σ' H' => ∃ μ' l' L', Le μ L H μ' L' H' ∧ SRel K μ' H' l' σ' ∧ HRel G w K μ' L' H' ∧ OutS G w K W D μ' L' H' (k l' L') } σ H := by
  refine ⟨μ, l, L, s, h, ?_⟩
  cases e : m l L with
  | nx l1 L1 =>
    rw [e] at o
    exact fun μ1 σ1 H1 a b c => ⟨μ1, l1, L1, a, c, b, OutS.shift a o⟩
  | rt x L1 => rw [e] at o; exact o
  | bk l1 L1 => rw [e] at o; exact o
  | ct l1 L1 => rw [e] at o; exact o
  | ex x l1 L1 => rw [e] at o; exact o
  | bad => rw [e] at o; exact o
end

/-! ### names, constants -/
section
variable {X : Cx} {G : Gm} {W : WX} {pos : Pos}
def eVar (i : Nat) : Lm LV := fun l L => match l[i]? with
  | some (some x) => .ok x L
  | _ => .bad
theorem je_var {i : Nat} {x : Str} (h : PE X (.Name x pos) (tVar i)) : JE X G W (.Name x pos) (eVar i) := PE.imp h fun σ H Q ⟨μ, l, L, s, h, o⟩ => by
  unfold eVar at o
  cases e : l[i]? with
  | none => rw [e] at o; exact o.elim
  | some y => cases y with
    | none => rw [e] at o; exact o.elim
    | some y =>
      rw [e] at o
      obtain ⟨v, a, b⟩ := s.2 i y e
      exact ⟨v, a, Out.here o h b⟩
def eC (x : LV) : Lm LV := fun _ L => .ok x L
theorem je_c {e : Expr} {v : V} {x : LV} (h : PE X e (tC v)) (r : ∀ μ H, VRel X.K μ H x v) : JE X G W e (eC x) := PE.imp h fun σ H Q ⟨μ, l, L, s, h, o⟩ => Out.here o h (r μ H)
theorem je_int {i : Int} {j} : JE X G W (.Constant (.int i) j pos) (eC (.int i)) := je_c pe_int fun _ _ => rfl
theorem je_bl {b : Bool} {j} : JE X G W (.Constant (.bool b) j pos) (eC (.bl b)) := je_c pe_bl fun _ _ => rfl
theorem je_non {j} : JE X G W (.Constant .none j pos) (eC .non) := je_c pe_non fun _ _ => rfl
theorem je_strE {x y : Str} {j} (h : y = x) : JE X G W (.Constant (.str x) j pos) (eC (.str y)) := by subst h; exact je_c pe_str fun _ _ => rfl
theorem je_str {x : Str} {j} : JE X G W (.Constant (.str x) j pos) (eC (.str x)) := je_c pe_str fun _ _ => rfl

/-! ### arguments, displays -/
def aNil : Lm (List LV) := fun _ L => .ok [] L
def aCons (m : Lm LV) (r : Lm (List LV)) : Lm (List LV) := fun l L => (m l L).bind fun x L1 => (r l L1).bind fun xs L2 => .ok (x :: xs) L2
theorem ja_nil : JA X G W [] aNil := PA.imp pa_nil fun σ H Q ⟨μ, l, L, s, h, o⟩ => Out.here o h rfl
theorem ja_cons {e : Expr} {es : List Expr} {m : Lm LV} {r : Lm (List LV)} (he : JE X G W e m) (hs : JA X G W es r) (hst : starEach (e :: es) X.env = (false, eval e X.env) :: starEach es X.env := by rfl) : JA X G W (e :: es) (aCons m r) :=
  PA.imp (pa_cons he hs hst) fun σ H Q ⟨μ, l, L, s, h, o⟩ => (TX.bind (R := RV X.K) s h o).mono fun v H1 ⟨μ1, L1, x, le, s1, h1, r1, o1⟩ =>
    (TX.bind (R := RVs X.K) s1 h1 o1).mono fun vs H2 ⟨μ2, L2, xs, le2, s2, h2, r2, o2⟩ => o2.here h2 ⟨v, vs, rfl, VRel.le le2 x r1, r2⟩
end
end LT

set_option Elab.async false
set_option linter.all false
set_option autoImplicit false
set_option maxRecDepth 100000
set_option maxHeartbeats 4000000
namespace LT
open PySem PySem.Spec L2

/-! ### an operation that raises nothing -/
def OutO {α β : Type} (R : Rl α β) (G : Gm) (w : World) (K : PySem.W.Frag) (Q : β → Hp → Prop) (μ : List Addr) (L : LH) (H : Hp) : Option (α × LH) → Prop
  | some (x, L') => ∀ μ' v H', Le μ L H μ' L' H' → HRel G w K μ' L' H' → R μ' H' x v → Q v H'
  | none => False
def ofO {α : Type} : Option (α × LH) → Rs α
  | some (x, L) => .ok x L
  | none => .bad
@[simp] theorem ofO_some {α : Type} (x : α) (L : LH) : ofO (some (x, L)) = .ok x L := rfl
@[simp] theorem ofO_none {α : Type} : (ofO none : Rs α) = .bad := rfl
section
variable {G : Gm} {w : World} {K : PySem.W.Frag} {W : WX} {σ : St} {μ : List Addr} {l : LS} {L : LH} {H : Hp}
theorem OutO.of {α β : Type} {R : Rl α β} {Q : β → Hp → Prop} {r : Option (α × LH)} (o : Out R G w K W σ Q μ L H (ofO r)) : OutO R G w K Q μ L H r := by
  cases r with
  | none => exact o
  | some p => exact o
theorem OutO.here {α β : Type} {R : Rl α β} {Q : β → Hp → Prop} {x : α} {v : β} (o : OutO R G w K Q μ L H (some (x, L))) (h : HRel G w K μ L H) (r : R μ H x v) : Q v H := o μ v H (Le.refl _ _ _) h r
/-- a new tuple -/
theorem OutO.tup {Q : VK} {xs : List LV} {vs : List V} (o : OutO (RV K) G w K Q μ L H (some (.tup xs, L))) (h : HRel G w K μ L H) (r : VRels K μ H xs vs) : ∀ p, H p = none → Q (.ref p) (upd H p (.tup vs)) := fun p hp => by
  obtain ⟨le, h'⟩ := h.tup hp (.tup vs)
  exact o μ _ _ le h' ⟨p, vs, rfl, SqT.of upd_same, VRels.le le xs r⟩
/-- a new list -/
theorem OutO.lst {Q : VK} {xs : List LV} {vs : List V} (o : OutO (RV K) G w K Q μ L H (some (.ref L.length, L ++ [.lst xs]))) (h : HRel G w K μ L H) (r : VRels K μ H xs vs) : ∀ p, H p = none → Q (.ref p) (upd H p (.lst vs)) := fun p hp => by
  obtain ⟨le, h'⟩ := h.obj_new hp (o := .lst vs) (u := .lst xs) (fun _ z => nomatch z) fun μ' L' le => ⟨vs, upd_same, VRels.le le xs r⟩
  exact o _ _ _ le h' ⟨p, by rw [← h.len, List.getElem?_append_right (Nat.le_refl _), Nat.sub_self]; rfl, rfl⟩
/-- a list of ours is changed -/
theorem OutO.setL {Q : VK} {n : Nat} {a : Addr} {y : LV} {v : V} {ys xs : List LV} {vs : List V} (o : OutO (RV K) G w K Q μ L H (some (y, L.set n (.lst xs)))) (h : HRel G w K μ L H) (hn : L[n]? = some (.lst ys)) (ha : μ[n]? = some a) (r : VRels K μ H xs vs) (ry : VRel K μ H y v) : Q v (upd H a (.lst vs)) := by
  obtain ⟨le, h'⟩ := h.obj_set ha (o := .lst vs) (u := .lst xs) (fun L' le => ⟨vs, upd_same, VRels.le le xs r⟩) (fun v kvs e => by rw [hn] at e; cases e)
  exact o _ _ _ le h' (VRel.le le y ry)
end

/-! ### what is read -/
theorem VRels.length {K : PySem.W.Frag} {μ : List Addr} {H : Hp} : ∀ {xs : List LV} {vs : List V}, VRels K μ H xs vs → vs.length = xs.length
  | [], _, h => by cases h; rfl
  | _ :: xs, _, h => by
    obtain ⟨v, r, rfl, _, h2⟩ := h
    rw [List.length_cons, List.length_cons, VRels.length h2]
theorem VRels.get {K : PySem.W.Frag} {μ : List Addr} {H : Hp} : ∀ {xs : List LV} {vs : List V}, VRels K μ H xs vs → ∀ {i : Nat} {x : LV}, xs[i]? = some x → ∃ v, vs[i]? = some v ∧ VRel K μ H x v
  | [], _, _, _, _, e => by simp at e
  | y :: xs, _, h, 0, x, e => by
    obtain ⟨v, r, rfl, h1, _⟩ := h
    cases e
    exact ⟨v, rfl, h1⟩
  | y :: xs, _, h, i + 1, x, e => by
    obtain ⟨v, r, rfl, _, h2⟩ := h
    exact VRels.get h2 (i := i) e
theorem VRels.append {K : PySem.W.Frag} {μ : List Addr} {H : Hp} : ∀ {xs ys : List LV} {vs us : List V}, VRels K μ H xs vs → VRels K μ H ys us → VRels K μ H (xs ++ ys) (vs ++ us)
  | [], _, _, _, h, r => by cases h; exact r
  | x :: xs, ys, _, us, h, r => by
    obtain ⟨v, q, rfl, h1, h2⟩ := h
    exact ⟨v, q ++ us, rfl, h1, VRels.append h2 r⟩
theorem VRels.take {K : PySem.W.Frag} {μ : List Addr} {H : Hp} : ∀ (n : Nat) {xs : List LV} {vs : List V}, VRels K μ H xs vs → VRels K μ H (xs.take n) (vs.take n)
  | 0, _, _, _ => rfl
  | n + 1, [], _, h => by cases h; rfl
  | n + 1, x :: xs, _, h => by
    obtain ⟨v, q, rfl, h1, h2⟩ := h
    exact ⟨v, q.take n, rfl, h1, VRels.take n h2⟩
theorem VRels.drop {K : PySem.W.Frag} {μ : List Addr} {H : Hp} : ∀ (n : Nat) {xs : List LV} {vs : List V}, VRels K μ H xs vs → VRels K μ H (xs.drop n) (vs.drop n)
  | 0, _, _, h => h
  | n + 1, [], _, h => by cases h; rfl
  | n + 1, x :: xs, _, h => by
    obtain ⟨v, q, rfl, h1, h2⟩ := h
    exact VRels.drop n h2
theorem VRels.reverse {K : PySem.W.Frag} {μ : List Addr} {H : Hp} : ∀ {xs : List LV} {vs : List V}, VRels K μ H xs vs → VRels K μ H xs.reverse vs.reverse
  | [], _, h => by cases h; rfl
  | x :: xs, _, h => by
    obtain ⟨v, q, rfl, h1, h2⟩ := h
    rw [List.reverse_cons, List.reverse_cons]
    exact VRels.append (VRels.reverse h2) ⟨v, [], rfl, h1, rfl⟩
theorem VRels.one {K : PySem.W.Frag} {μ : List Addr} {H : Hp} {x : LV} {v : V} (h : VRel K μ H x v) : VRels K μ H [x] [v] := ⟨v, [], rfl, h, rfl⟩
/-- the items of a list that may be read -/
def lstAt (L : LH) (n : Nat) : Option (List LV) := match L[n]? with
  | some (.lst xs) => some xs
  | some (.fz xs) => some xs
  | _ => none
section
variable {G : Gm} {w : World} {K : PySem.W.Frag} {μ : List Addr} {L : LH} {H : Hp}
theorem HRel.lst (h : HRel G w K μ L H) {n : Nat} {xs : List LV} (e : lstAt L n = some xs) : ∃ a vs, μ[n]? = some a ∧ SqL K H a vs ∧ VRels K μ H xs vs := by
  unfold lstAt at e
  cases q : L[n]? with
  | none => rw [q] at e; cases e
  | some o =>
    rw [q] at e
    obtain ⟨a, ha, r⟩ := h.of q
    cases o with
    | lst ys =>
      cases e
      obtain ⟨vs, p, r⟩ := r
      exact ⟨a, vs, ha, SqL.of p, r⟩
    | fz ys =>
      cases e
      obtain ⟨o, vs, p, r⟩ := r
      exact ⟨a, vs, ha, .inl (.inr ⟨o, p⟩), r⟩
    | dct v kvs => cases e
    | obj c fs => cases e
end

/-! ### data -/
mutual
def datT (f : Nat → Option PyData) : LV → Option PyData
  | .non => some .none
  | .bl b => some (.bool b)
  | .int i => some (.int i)
  | .str x => some (.str x)
  | .tup xs => match datTs f xs with
    | some ds => some (.tuple ds)
    | none => none
  | .ref n => f n
def datTs (f : Nat → Option PyData) : List LV → Option (List PyData)
  | [] => some []
  | x :: xs => match datT f x with
    | some d => (match datTs f xs with
      | some ds => some (d :: ds)
      | none => none)
    | none => none
end
def datR (L : LH) : Nat → Nat → Option PyData
  | 0, _ => none
  | d + 1, n => match lstAt L n with
    | some xs => (match datTs (datR L d) xs with
      | some ds => some (.list ds)
      | none => none)
    | none => none
def dat (L : LH) (x : LV) : Option PyData := match datT (datR L 4) x with
  | some d => if SeqAt.shaped d = true then some d else none
  | none => none
mutual
theorem datT_dp {K : PySem.W.Frag} {μ : List Addr} {H : Hp} {f : Nat → Option PyData} (hf : ∀ n d a, f n = some d → μ[n]? = some a → Dp K H (.ref a) d) : ∀ (x : LV) {d : PyData} {v : V}, datT f x = some d → VRel K μ H x v → Dp K H v d
  | .non, d, v, e, r => by cases e; cases r; exact .non
  | .bl b, d, v, e, r => by cases e; cases r; exact .bl b
  | .int i, d, v, e, r => by cases e; cases r; exact .int i
  | .str x, d, v, e, r => by cases e; cases r; exact .str x
  | .tup xs, d, v, e, r => by
    unfold datT at e
    obtain ⟨a, vs, rfl, s, q⟩ := r
    cases h : datTs f xs with
    | none => rw [h] at e; cases e
    | some ds =>
      rw [h] at e
      cases e
      exact .tup s (datTs_dp hf xs h q)
  | .ref n, d, v, e, r => by
    obtain ⟨a, ha, rfl⟩ := r
    exact hf n d a e ha
theorem datTs_dp {K : PySem.W.Frag} {μ : List Addr} {H : Hp} {f : Nat → Option PyData} (hf : ∀ n d a, f n = some d → μ[n]? = some a → Dp K H (.ref a) d) : ∀ (xs : List LV) {ds : List PyData} {vs : List V}, datTs f xs = some ds → VRels K μ H xs vs → DpAll K H vs ds
  | [], ds, vs, e, r => by cases e; cases r; exact .nil
  | x :: xs, ds, vs, e, r => by
    unfold datTs at e
    obtain ⟨v, q, rfl, r1, r2⟩ := r
    cases h1 : datT f x with
    | none => rw [h1] at e; cases e
    | some d =>
      rw [h1] at e
      cases h2 : datTs f xs with
      | none => rw [h2] at e; cases e
      | some ds' =>
        rw [h2] at e
        cases e
        exact .cons (datT_dp hf x h1 r1) (datTs_dp hf xs h2 r2)
end
section
variable {G : Gm} {w : World} {K : PySem.W.Frag} {μ : List Addr} {L : LH} {H : Hp}
theorem datR_dp (h : HRel G w K μ L H) : ∀ (k n : Nat) {d : PyData} {a : Addr}, datR L k n = some d → μ[n]? = some a → Dp K H (.ref a) d
  | 0, _, _, _, e, _ => by cases e
  | k + 1, n, d, a, e, ha => by
    unfold datR at e
    cases q : lstAt L n with
    | none => rw [q] at e; cases e
    | some xs =>
      rw [q] at e
      dsimp only at e
      obtain ⟨b, vs, hb, s, r⟩ := h.lst q
      rw [ha] at hb
      cases hb
      cases q2 : datTs (datR L k) xs with
      | none => rw [q2] at e; cases e
      | some ds =>
        rw [q2] at e
        cases e
        exact .lst s (datTs_dp (fun m d' a' e' ha' => datR_dp h k m e' ha') xs q2 r)
theorem dat_dp (h : HRel G w K μ L H) {x : LV} {d : PyData} {v : V} (e : dat L x = some d) (r : VRel K μ H x v) : Dp K H v d ∧ SeqAt.shaped d = true := by
  unfold dat at e
  cases q : datT (datR L 4) x with
  | none => rw [q] at e; cases e
  | some d' =>
    rw [q] at e
    by_cases hs : SeqAt.shaped d' = true
    · rw [show (match (some d' : Option PyData) with | some d => if SeqAt.shaped d = true then some d else none | none => none) = if SeqAt.shaped d' = true then some d' else none from rfl, if_pos hs] at e
      cases e
      exact ⟨datT_dp (fun m d a e ha => datR_dp h 4 m e ha) x q r, hs⟩
    · rw [show (match (some d' : Option PyData) with | some d => if SeqAt.shaped d = true then some d else none | none => none) = if SeqAt.shaped d' = true then some d' else none from rfl, if_neg hs] at e
      cases e
end

/-! ### operators of two places -/
abbrev Op2 := LV → LV → LH → Option (LV × LH)
def JOp (X : Cx) (G : Gm) (fn : Value → Value → Sem Value) (f : Op2) : Prop :=
  OpR X fn fun x y H Q => ∃ μ L a b, HRel G X.w X.K μ L H ∧ VRel X.K μ H a x ∧ VRel X.K μ H b y ∧ OutO (RV X.K) G X.w X.K Q μ L H (f a b L)
def eOp (f : Op2) (ma mb : Lm LV) : Lm LV := fun l L => (ma l L).bind fun x L1 => (mb l L1).bind fun y L2 => ofO (f x y L2)
section
variable {X : Cx} {G : Gm} {W : WX} {pos : Pos} {a b c : Expr} {ma mb mc : Lm LV}
theorem bin_of {f : Op2} {σ : St} {H : Hp} {Q : VK} (t : TX (RV X.K) G X.w X.K W (eOp f ma mb) σ H Q) :
    tOp (fun x y H Q => ∃ μ L a b, HRel G X.w X.K μ L H ∧ VRel X.K μ H a x ∧ VRel X.K μ H b y ∧ OutO (RV X.K) G X.w X.K Q μ L H (f a b L)) (TX (RV X.K) G X.w X.K W ma) (TX (RV X.K) G X.w X.K W mb) σ H Q := by
  obtain ⟨μ, l, L, s, h, o⟩ := t
  exact (TX.bind (R := RV X.K) s h o).mono fun v H1 ⟨μ1, L1, x, le, s1, h1, r1, o1⟩ => (TX.bind (R := RV X.K) s1 h1 o1).mono fun u H2 ⟨μ2, L2, y, le2, s2, h2, r2, o2⟩ =>
    ⟨μ2, L2, x, y, h2, VRel.le le2 x r1, r2, OutO.of o2⟩
theorem je_op {op : Operator} {f : Op2} (ho : JOp X G (binaryOp op) f) (ha : JE X G W a ma) (hb : JE X G W b mb) : JE X G W (.BinOp a op b pos) (eOp f ma mb) := PE.imp (pe_op ho ha hb) fun _ _ _ => bin_of
theorem je_cmp {op : CmpOp} {f : Op2} (ho : JOp X G (compareOp op) f) (ha : JE X G W a ma) (hb : JE X G W b mb) (hm : behindInMarks op b = false) : JE X G W (.Compare a [op] [b] pos) (eOp f ma mb) := PE.imp (pe_cmpR ho ha hb hm) fun _ _ _ => bin_of
/-- a value that is a bool, as a test -/
def tOf (m : Lm LV) : Lm Bool := fun l L => (m l L).bind fun x L1 => match x with
  | .bl b => .ok b L1
  | _ => .bad
theorem tOf_run {m : Lm LV} {σ : St} {H : Hp} {Q : Bool → Hp → Prop} (t : TX RB G X.w X.K W (tOf m) σ H Q) : TX (RV X.K) G X.w X.K W m σ H fun x H' => ∃ k, x = .bl k ∧ Q k H' := by
  obtain ⟨μ, l, L, s, h, o⟩ := t
  refine (TX.bind (R := RV X.K) s h o).mono fun v H1 ⟨μ1, L1, x, le, s1, h1, r1, o1⟩ => ?_
  cases x with
  | bl b => exact ⟨b, r1, Out.here o1 h1 rfl⟩
  | _ => exact o1.elim
theorem jt_cmp {op : CmpOp} {f : Op2} (ho : JOp X G (compareOp op) f) (ha : JE X G W a ma) (hb : JE X G W b mb) (hm : behindInMarks op b = false) : JT X G W (.Compare a [op] [b] pos) (tOf (eOp f ma mb)) :=
  PT.imp (pt_cmpR ho ha hb hm) fun σ H Q t => bin_of (tOf_run t)
theorem jt_val (ha : JE X G W a ma) (he : ∀ whole, isTrue a X.env whole = (do let v ← whole; standAt a.pos; holding [v] (truthy v)) := by intro _; rfl) : JT X G W a (tOf ma) := PT.imp (pt_val ha he) fun σ H Q t => tOf_run t

/-! ### two comparisons in a row -/
def eChain (f g : Op2) (ma mb mc : Lm LV) : Lm LV := fun l L => (ma l L).bind fun x L1 => (mb l L1).bind fun y L2 => (ofO (f x y L2)).bind fun z L3 => match z with
  | .bl true => (mc l L3).bind fun u L4 => ofO (g y u L4)
  | .bl false => .ok (.bl false) L3
  | _ => .bad
theorem chain_of {f g : Op2} {σ : St} {H : Hp} {Q : VK} (t : TX (RV X.K) G X.w X.K W (eChain f g ma mb mc) σ H Q) :
    tChain (fun x y H Q => ∃ μ L a b, HRel G X.w X.K μ L H ∧ VRel X.K μ H a x ∧ VRel X.K μ H b y ∧ OutO (RV X.K) G X.w X.K Q μ L H (f a b L)) (fun x y H Q => ∃ μ L a b, HRel G X.w X.K μ L H ∧ VRel X.K μ H a x ∧ VRel X.K μ H b y ∧ OutO (RV X.K) G X.w X.K Q μ L H (g a b L))
      (TX (RV X.K) G X.w X.K W ma) (TX (RV X.K) G X.w X.K W mb) (TX (RV X.K) G X.w X.K W mc) σ H Q := by
  obtain ⟨μ, l, L, s, h, o⟩ := t
  refine (TX.bind (R := RV X.K) s h o).mono fun v H1 ⟨μ1, L1, x, le, s1, h1, r1, o1⟩ => (TX.bind (R := RV X.K) s1 h1 o1).mono fun u H2 ⟨μ2, L2, y, le2, s2, h2, r2, o2⟩ => ?_
  refine ⟨μ2, L2, x, y, h2, VRel.le le2 x r1, r2, ?_⟩
  dsimp only at o2
  cases e : f x y L2 with
  | none => rw [e] at o2; exact o2
  | some p =>
    obtain ⟨z, L3⟩ := p
    rw [e] at o2
    intro μ3 v3 H3 le3 h3 r3
    have s3 := s2.le le3
    rw [ofO_some, Rs.bind_ok] at o2
    have o3 := Out.shift le3 o2
    cases z with
    | bl b =>
      refine ⟨b, r3, ?_⟩
      cases b with
      | true => exact iteT ((TX.bind (R := RV X.K) s3 h3 o3).mono fun u4 H4 ⟨μ4, L4, y4, le4, s4, h4, r4, o4⟩ => ⟨μ4, L4, y, y4, h4, VRel.le le4 y (VRel.le le3 y r2), r4, OutO.of o4⟩)
      | false => exact iteF (Out.here o3 h3 rfl)
    | _ => exact o3.elim
theorem je_chain {op op' : CmpOp} {f g : Op2} (ho : JOp X G (compareOp op) f) (ho' : JOp X G (compareOp op') g) (ha : JE X G W a ma) (hb : JE X G W b mb) (hc : JE X G W c mc) (hm : lastMarks [op, op'] [b, c] = false := by with_unfolding_all rfl) :
    JE X G W (.Compare a [op, op'] [b, c] pos) (eChain f g ma mb mc) := PE.imp (pe_chain ho ho' ha hb hc hm) fun _ _ _ => chain_of
theorem jt_chain {op op' : CmpOp} {f g : Op2} (ho : JOp X G (compareOp op) f) (ho' : JOp X G (compareOp op') g) (ha : JE X G W a ma) (hb : JE X G W b mb) (hc : JE X G W c mc) (hm : lastMarks [op, op'] [b, c] = false := by with_unfolding_all rfl) :
    JT X G W (.Compare a [op, op'] [b, c] pos) (tOf (eChain f g ma mb mc)) := PT.imp (pt_chain ho ho' ha hb hc hm) fun σ H Q t => chain_of (tOf_run t)
end

/-! ### the operators -/
def addV : Op2
  | .int i, .int j, L => some (.int (i + j), L)
  | .str x, .str y, L => if x.length + y.length ≤ sizeLine then some (.str (x ++ y), L) else none
  | .tup xs, .tup ys, L => if xs.length + ys.length ≤ sizeLine then some (.tup (xs ++ ys), L) else none
  | .ref n, .ref m, L => match L[n]?, L[m]? with
    | some (.lst xs), some (.lst ys) => if xs.length + ys.length ≤ sizeLine then some (.ref L.length, L ++ [.lst (xs ++ ys)]) else none
    | _, _ => none
  | _, _, _ => none
def subV : Op2
  | .int i, .int j, L => some (.int (i - j), L)
  | _, _, _ => none
def ltV : Op2
  | .int i, .int j, L => some (.bl (decide (i < j)), L)
  | _, _, _ => none
def leV : Op2
  | .int i, .int j, L => some (.bl (decide (i ≤ j)), L)
  | _, _, _ => none
def gtV : Op2
  | .int i, .int j, L => some (.bl (decide (j < i)), L)
  | _, _, _ => none
def geV : Op2
  | .int i, .int j, L => some (.bl (decide (j ≤ i)), L)
  | _, _, _ => none
def eqL (L : LH) (x y : LV) : Option Bool := match dat L x with
  | some d => (match dat L y with
    | some e => some (PyData.eqv d e)
    | none => none)
  | none => none
def isNonV : LV → Bool
  | .non => true
  | _ => false
def isV : Op2
  | x, .non, L => some (.bl (isNonV x), L)
  | _, _, _ => none
def isNotV : Op2
  | x, .non, L => some (.bl (!isNonV x), L)
  | _, _, _ => none
section
variable {X : Cx} {G : Gm}
theorem jo_add : JOp X G (binaryOp .Add) addV := by
  intro pins s σ H x y v u Q I rx ry h
  obtain ⟨μ, L, a, b, hr, ra, rb, o⟩ := h
  unfold addV at o
  split at o
  · exact op_add pins s σ H x y v u Q I rx ry ⟨_, _, ra, rb, o.here hr rfl⟩
  · split at o
    · rename_i hz
      exact op_add_str pins s σ H x y v u Q I rx ry ⟨_, _, ra, rb, hz, o.here hr rfl⟩
    · exact o.elim
  · split at o
    · rename_i xs ys hz
      obtain ⟨p, vs, rfl, sp, rp⟩ := ra
      obtain ⟨q, us, rfl, sq, rq⟩ := rb
      refine op_catA pins s σ H _ _ v u Q I rx ry ⟨p, q, vs, us, rfl, rfl, sp, sq, by rw [rp.length, rq.length]; exact hz, fun e => ?_, fun e1 e2 => ?_, fun _ _ => OutO.tup o hr (rp.append rq)⟩
      · subst e
        cases xs with
        | nil => exact o.here hr ⟨q, us, rfl, sq, rq⟩
        | cons z zs =>
          obtain ⟨_, _, e, _⟩ := rp
          cases e
      · subst e2
        cases ys with
        | nil => exact o.here hr ⟨p, vs, rfl, sp, by rw [List.append_nil]; exact rp⟩
        | cons z zs =>
          obtain ⟨_, _, e, _⟩ := rq
          cases e
    · exact o.elim
  · split at o
    · rename_i n m L xs ys h1 h2
      split at o
      · rename_i hz
        obtain ⟨p, hp, vs, ep, rp⟩ := hr.of h1
        obtain ⟨q, hq, us, eq, rq⟩ := hr.of h2
        obtain ⟨p', hp', rfl⟩ := ra
        obtain ⟨q', hq', rfl⟩ := rb
        rw [hp] at hp'
        rw [hq] at hq'
        cases hp'
        cases hq'
        exact op_cat pins s σ H _ _ v u Q I rx ry ⟨p, q, vs, us, rfl, rfl, ep, eq, by rw [rp.length, rq.length]; exact hz, OutO.lst o hr (rp.append rq)⟩
      · exact o.elim
    · exact o.elim
  · exact o.elim
theorem jo_sub : JOp X G (binaryOp .Sub) subV := by
  intro pins s σ H x y v u Q I rx ry h
  obtain ⟨μ, L, a, b, hr, ra, rb, o⟩ := h
  unfold subV at o
  split at o
  · exact op_sub pins s σ H x y v u Q I rx ry ⟨_, _, ra, rb, o.here hr rfl⟩
  · exact o.elim
theorem jo_le : JOp X G (compareOp .LtE) leV := by
  intro pins s σ H x y v u Q I rx ry h
  obtain ⟨μ, L, a, b, hr, ra, rb, o⟩ := h
  unfold leV at o
  split at o
  · exact op_le pins s σ H x y v u Q I rx ry ⟨_, _, ra, rb, o.here hr rfl⟩
  · exact o.elim
theorem jo_gt : JOp X G (compareOp .Gt) gtV := by
  intro pins s σ H x y v u Q I rx ry h
  obtain ⟨μ, L, a, b, hr, ra, rb, o⟩ := h
  unfold gtV at o
  split at o
  · exact op_gt pins s σ H x y v u Q I rx ry ⟨_, _, ra, rb, o.here hr rfl⟩
  · exact o.elim
theorem jo_ge : JOp X G (compareOp .GtE) geV := by
  intro pins s σ H x y v u Q I rx ry h
  obtain ⟨μ, L, a, b, hr, ra, rb, o⟩ := h
  unfold geV at o
  split at o
  · exact op_ge pins s σ H x y v u Q I rx ry ⟨_, _, ra, rb, o.here hr rfl⟩
  · exact o.elim
theorem isNon_rel {K : PySem.W.Frag} {μ : List Addr} {H : Hp} {x : LV} {v : V} (r : VRel K μ H x v) : decide (v = .non) = isNonV x := by
  cases x with
  | non => cases r; rfl
  | bl b => cases r; rfl
  | int i => cases r; rfl
  | str i => cases r; rfl
  | tup xs => obtain ⟨_, _, rfl, _⟩ := r; rfl
  | ref n => obtain ⟨_, _, rfl⟩ := r; rfl
theorem jo_is : JOp X G (compareOp .Is) isV := by
  intro pins s σ H x y v u Q I rx ry h
  obtain ⟨μ, L, a, b, hr, ra, rb, o⟩ := h
  unfold isV at o
  split at o
  · exact op_isN pins s σ H x y v u Q I rx ry ⟨rb, o.here hr (by rw [isNon_rel ra]; rfl)⟩
  · exact o.elim
theorem jo_isnot : JOp X G (compareOp .IsNot) isNotV := by
  intro pins s σ H x y v u Q I rx ry h
  obtain ⟨μ, L, a, b, hr, ra, rb, o⟩ := h
  unfold isNotV at o
  split at o
  · exact op_notN pins s σ H x y v u Q I rx ry ⟨rb, o.here hr (by rw [isNon_rel ra]; rfl)⟩
  · exact o.elim
end
end LT

set_option Elab.async false
set_option linter.all false
set_option autoImplicit false
set_option maxRecDepth 100000
set_option maxHeartbeats 4000000
namespace LT
open PySem PySem.Spec L2

/-! ### dicts: what they do -/
def keyEq (x y : LV) : Bool := NestedKey.beq (nk x) (nk y)
theorem keyEq_iff {x y : LV} : keyEq x y = true ↔ nk x = nk y := ⟨fun h => NestedKey.eq_of_beq _ _ h, fun h => by unfold keyEq; rw [h]; exact NestedKey.beq_self _⟩
def dget : List (LV × LV) → LV → Option LV
  | [], _ => none
  | p :: r, k => if keyEq p.1 k = true then some p.2 else dget r k
def dput : List (LV × LV) → LV → LV → List (LV × LV)
  | [], k, v => [(k, v)]
  | p :: r, k, v => if keyEq p.1 k = true then (p.1, v) :: r else p :: dput r k v
def ddel : List (LV × LV) → LV → List (LV × LV)
  | [], _ => []
  | p :: r, k => if keyEq p.1 k = true then r else p :: ddel r k
theorem dput_keys (k v : LV) : ∀ kvs : List (LV × LV), ((dput kvs k v).map fun p => nk p.1) = if (dget kvs k).isSome = true then kvs.map (fun p => nk p.1) else kvs.map (fun p => nk p.1) ++ [nk k]
  | [] => rfl
  | p :: r => by
    unfold dput dget
    by_cases h : keyEq p.1 k = true
    · rw [if_pos h, if_pos h]; rfl
    · rw [if_neg h, if_neg h, List.map_cons, dput_keys k v r]
      split <;> rfl
theorem dget_none {k : LV} : ∀ {kvs : List (LV × LV)}, dget kvs k = none → nk k ∉ kvs.map fun p => nk p.1
  | [], _ => by simp
  | p :: r, h => by
    unfold dget at h
    by_cases e : keyEq p.1 k = true
    · rw [if_pos e] at h; cases h
    · rw [if_neg e] at h
      rw [List.map_cons, List.mem_cons]
      rintro (z | z)
      · exact e (keyEq_iff.mpr z.symm)
      · exact dget_none h z
theorem dput_nodup {kvs : List (LV × LV)} {k v : LV} (h : (kvs.map fun p => nk p.1).Nodup) : ((dput kvs k v).map fun p => nk p.1).Nodup := by
  rw [dput_keys]
  split
  · exact h
  · rename_i e
    have e' : dget kvs k = none := by simpa using e
    rw [List.nodup_append]
    refine ⟨h, by simp, fun a ha b hb z => dget_none e' ?_⟩
    rw [List.mem_singleton] at hb
    rw [← hb, ← z]
    exact ha
theorem ddel_sub (k : LV) : ∀ kvs : List (LV × LV), (ddel kvs k).Sublist kvs
  | [] => .slnil
  | p :: r => by
    unfold ddel
    split
    · exact List.sublist_cons_self _ _
    · exact (ddel_sub k r).cons_cons _
theorem ddel_nodup {kvs : List (LV × LV)} {k : LV} (h : (kvs.map fun p => nk p.1).Nodup) : ((ddel kvs k).map fun p => nk p.1).Nodup := h.sublist ((ddel_sub k kvs).map _)
theorem dput_mem {k v : LV} : ∀ {kvs : List (LV × LV)} {q : LV × LV}, q ∈ dput kvs k v → q.1 = k ∨ ∃ p ∈ kvs, p.1 = q.1
  | [], q, h => by
    rw [show dput [] k v = [(k, v)] from rfl, List.mem_singleton] at h
    exact .inl (by rw [h])
  | p :: r, q, h => by
    unfold dput at h
    by_cases e : keyEq p.1 k = true
    · rw [if_pos e, List.mem_cons] at h
      rcases h with h | h
      · exact .inr ⟨p, List.mem_cons_self, by rw [h]⟩
      · exact .inr ⟨q, List.mem_cons_of_mem _ h, rfl⟩
    · rw [if_neg e, List.mem_cons] at h
      rcases h with h | h
      · exact .inr ⟨p, List.mem_cons_self, by rw [h]⟩
      · rcases dput_mem h with z | ⟨p', hp, z⟩
        · exact .inl z
        · exact .inr ⟨p', List.mem_cons_of_mem _ hp, z⟩

/-! ### a key in the heap -/
mutual
theorem nested_of {X : Cx} {pins : List (Addr × Obj)} {σ : St} {H : Hp} {s : Shared} {μ : List Addr} (I : Inv X pins σ H s) : ∀ (x : LV) {v : V} {u : Value}, VRel X.K μ H x v → RelV v u → flat x = true → NestedIs s.heap (nk x) u
  | .non, _, _, h, r, _ => by cases h; cases r; exact .none
  | .bl b, _, _, h, r, _ => by cases h; cases r; exact .bool rfl
  | .int i, _, _, h, r, _ => by cases h; obtain ⟨t, rfl⟩ := r; exact .int i t
  | .str x, _, _, h, r, _ => by cases h; obtain ⟨t, rfl⟩ := r; exact .text x t
  | .tup xs, _, _, h, r, f => by
    obtain ⟨a, vs, rfl, sq, q⟩ := h
    cases r
    obtain ⟨its, rv, ⟨o, e, c, n, d⟩, _⟩ := I.tuple sq
    refine .tup e c d ?_
    exact nesteds_of I xs q rv f
  | .ref n, _, _, h, r, f => by cases f
theorem nesteds_of {X : Cx} {pins : List (Addr × Obj)} {σ : St} {H : Hp} {s : Shared} {μ : List Addr} (I : Inv X pins σ H s) : ∀ (xs : List LV) {vs : List V} {us : List Value}, VRels X.K μ H xs vs → Vals vs us → flats xs = true → NestedAll s.heap (nks xs) us
  | [], _, _, h, r, _ => by cases h; cases r; exact .nil
  | x :: xs, _, _, h, r, f => by
    obtain ⟨v, q, rfl, h1, h2⟩ := h
    cases r with
    | cons r1 r2 =>
      unfold flats at f
      rw [Bool.and_eq_true_iff] at f
      exact .cons (nested_of I x h1 r1 f.1) (nesteds_of I xs h2 r2 f.2)
end
def kOf : LV → Option Key
  | .int i => some (.inl i)
  | .str x => some (.inr x)
  | _ => none
theorem kOf_nk {x y : LV} {k j : Key} (hx : kOf x = some k) (hy : kOf y = some j) : nk x = nk y ↔ k = j := by
  cases x with
  | int i => cases y with
    | int i' => cases hx; cases hy; exact ⟨fun h => by cases h; rfl, fun h => by cases h; rfl⟩
    | str x' => cases hx; cases hy; exact ⟨(fun h => nomatch h), (fun h => nomatch h)⟩
    | _ => cases hy
  | str x => cases y with
    | int i' => cases hx; cases hy; exact ⟨(fun h => nomatch h), (fun h => nomatch h)⟩
    | str x' => cases hx; cases hy; exact ⟨fun h => by cases h; rfl, fun h => by cases h; rfl⟩
    | _ => cases hy
  | _ => cases hx
theorem kOf_hash {w : World} {x : LV} {k : Key} (hx : kOf x = some k) : hashK w x = keyH w k := by
  cases x with
  | int i => cases hx; rfl
  | str x => cases hx; rfl
  | _ => cases hx
theorem kOf_rel {K : PySem.W.Frag} {μ : List Addr} {H : Hp} {x : LV} {k : Key} (hx : kOf x = some k) {v : V} : VRel K μ H x v ↔ v = kV k := by
  cases x with
  | int i => cases hx; exact Iff.rfl
  | str x => cases hx; exact Iff.rfl
  | _ => cases hx
theorem kOf_ok {x : LV} (h : okKey x = true) (ht : isTup x = false) : ∃ k, kOf x = some k := by
  cases x with
  | int i => exact ⟨_, rfl⟩
  | str i => exact ⟨_, rfl⟩
  | tup xs => cases ht
  | _ => cases h

/-! ### the two kinds of dict -/
def TRel (K : PySem.W.Frag) (μ : List Addr) (H : Hp) (p : LV × LV) (x : NestedKey × Addr × Value) : Prop :=
  x.1 = nk p.1 ∧ VRel K μ H p.1 (.ref x.2.1) ∧ (∃ v, VRel K μ H p.2 v ∧ RelV v x.2.2) ∧ okKey p.1 = true ∧ isTup p.1 = true
def LRel (K : PySem.W.Frag) (μ : List Addr) (H : Hp) (p : LV × LV) (q : Key × Value) : Prop :=
  kOf p.1 = some q.1 ∧ ∃ v, VRel K μ H p.2 v ∧ RelV v q.2
section
variable {X : Cx} {pins : List (Addr × Obj)} {σ : St} {H : Hp} {s : Shared} {μ : List Addr}
theorem isT_of {K : PySem.W.Frag} {x : LV} {v : V} {u : Value} (t : isTup x = true) (r : VRel K μ H x v) (q : RelV v u) : ∃ b, v = .ref b ∧ u = .ref b := by
  cases x with
  | tup xs => obtain ⟨a, vs, rfl, _⟩ := r; cases q; exact ⟨a, rfl, rfl⟩
  | _ => cases t
theorem tup_hash {w : World} {x : LV} (t : isTup x = true) : hashK w x = (nk x).hash w := by
  cases x with
  | tup xs => rfl
  | _ => cases t
theorem is_of (I : Inv X pins σ H s) {x : LV} {b : Addr} (t : isTup x = true) (ok : okKey x = true) (r : VRel X.K μ H x (.ref b)) : (nestedKind X.prog X.w).is s.heap (nk x) b := by
  cases x with
  | tup xs =>
    unfold okKey at ok
    rw [Bool.and_eq_true_iff] at ok
    exact ⟨nested_of I (.tup xs) r rfl (by unfold flat; exact ok.1), Nat.le_of_ble_eq_true ok.2⟩
  | _ => cases t
theorem tview_es (I : Inv X pins σ H s) : ∀ {kvs : List (LV × LV)} {es : List DictEntry}, Paired (ERel X.w X.K μ H) kvs es → (kvs.all fun p => isTup p.1) = true → ∃ xs, es = xs.map (entryOfKey (nestedKind X.prog X.w)) ∧ Paired (TRel X.K μ H) kvs xs
  | _, _, .nil, _ => ⟨[], rfl, .nil⟩
  | p :: kvs, e :: es, .cons r t, h => by
    rw [List.all_cons, Bool.and_eq_true_iff] at h
    obtain ⟨xs, e1, e2⟩ := tview_es I t h.2
    obtain ⟨⟨k, r1, r2⟩, rv, hh, ok⟩ := r
    obtain ⟨b, rfl, hb⟩ := isT_of h.1 r1 r2
    refine ⟨(nk p.1, b, e.val) :: xs, ?_, .cons ⟨rfl, r1, rv, ok, h.1⟩ e2⟩
    rw [List.map_cons, ← e1]
    congr 1
    obtain ⟨eh, ek, ev⟩ := e
    cases hb
    show (⟨eh, .ref b, ev⟩ : DictEntry) = ⟨(nk p.1).hash X.w, .ref b, ev⟩
    rw [show eh = (nk p.1).hash X.w from hh.trans (tup_hash h.1)]
theorem TRel.is (I : Inv X pins σ H s) {p : LV × LV} {x : NestedKey × Addr × Value} (r : TRel X.K μ H p x) : (nestedKind X.prog X.w).is s.heap x.1 x.2.1 := by
  obtain ⟨e, r1, _, ok, t⟩ := r
  rw [e]
  exact is_of I t ok r1
theorem paired_right {α β : Type} {F : α → β → Prop} : ∀ {l : List α} {r : List β}, Paired F l r → ∀ {y : β}, y ∈ r → ∃ x ∈ l, F x y
  | _, _, .nil, _, h => by cases h
  | _, _, .cons a t, y, h => by
    rcases List.mem_cons.mp h with rfl | h
    · exact ⟨_, List.mem_cons_self, a⟩
    · obtain ⟨x, hx, f⟩ := paired_right t h
      exact ⟨x, List.mem_cons_of_mem _ hx, f⟩
theorem tkeys {K : PySem.W.Frag} : ∀ {kvs : List (LV × LV)} {xs : List (NestedKey × Addr × Value)}, Paired (TRel K μ H) kvs xs → xs.map (·.1) = kvs.map fun p => nk p.1
  | _, _, .nil => rfl
  | _, _, .cons r t => by rw [List.map_cons, List.map_cons, tkeys t, r.1]
/-- a dict of ours whose keys are tuples -/
theorem DRel.tup (I : Inv X pins σ H s) {a : Addr} {o : Obj} {kvs : List (LV × LV)} (d : DRel X.w X.K μ H o kvs) (ha : H a = some (dX a o)) (t : (kvs.all fun p => isTup p.1) = true) :
    ∃ xs, s.heap.DictOfH (nestedKind X.prog X.w) a xs ∧ Paired (TRel X.K μ H) kvs xs ∧ xs.length ≤ sizeLine := by
  obtain ⟨ex, ⟨es, ep, e1, e2, pr⟩, nd, _⟩ := d
  obtain ⟨xs, e3, pt⟩ := tview_es I pr t
  refine ⟨xs, ⟨o, es, ep, dX_at I.hok ha, ex, e1, e3, fun x hx => ?_, by rw [tkeys pt]; exact nd⟩, pt, ?_⟩
  · obtain ⟨p, _, r⟩ := paired_right pt hx
    exact r.is I
  · have := congrArg List.length e3
    rw [List.length_map, Array.length_toList] at this
    omega
theorem tview_back {w : World} {P : Program} {K : PySem.W.Frag} : ∀ {kvs : List (LV × LV)} {xs : List (NestedKey × Addr × Value)}, Paired (TRel K μ H) kvs xs → Paired (ERel w K μ H) kvs (xs.map (entryOfKey (nestedKind P w)))
  | _, _, .nil => .nil
  | p :: _, x :: _, .cons r t => by
    obtain ⟨e, r1, rv, ok, it⟩ := r
    refine .cons ⟨⟨_, r1, rfl⟩, rv, ?_, ok⟩ (tview_back t)
    show (NestedKey.hash w x.1 : Int) = _
    rw [e, tup_hash it]
theorem DRel.ofT {a : Addr} {h' : Heap} {kvs : List (LV × LV)} {xs : List (NestedKey × Addr × Value)} (dd : h'.DictOfH (nestedKind X.prog X.w) a xs) (pt : Paired (TRel X.K μ H) kvs xs) (hz : kvs.length ≤ sizeLine) :
    ∃ o', h'.get? a = some o' ∧ DRel X.w X.K μ H o' kvs := by
  obtain ⟨o, es, ep, e, ex, e1, e2, _, nd⟩ := dd
  refine ⟨o, e, ex, ⟨es, ep, e1, ?_, by rw [e2]; exact tview_back pt⟩, by rw [← tkeys pt]; exact nd, .inl ?_⟩
  · have h1 := congrArg List.length e2
    rw [List.length_map, Array.length_toList] at h1
    have h2 := Paired.length pt
    omega
  · rw [List.all_eq_true]
    intro p hp
    obtain ⟨i, hi⟩ := List.getElem?_of_mem hp
    obtain ⟨x, _, r⟩ := L2.paired_get pt hi
    exact r.2.2.2.2
theorem lview_es {w : World} {P : Program} {K : PySem.W.Frag} : ∀ {kvs : List (LV × LV)} {es : List DictEntry}, Paired (ERel w K μ H) kvs es → (kvs.all fun p => !isTup p.1) = true →
    ∃ vs, Pairs (mixKind P w) es vs ∧ Paired (LRel K μ H) kvs vs ∧ ∀ e ∈ es, ∃ k, (mixKind P w).is k e.key = true ∧ e.hash = (mixKind P w).hash k
  | _, _, .nil, _ => ⟨[], .nil, .nil, fun _ h => by cases h⟩
  | p :: kvs, e :: es, .cons r t, h => by
    rw [List.all_cons, Bool.and_eq_true_iff] at h
    obtain ⟨vs, e1, e2, e3⟩ := lview_es t h.2
    obtain ⟨⟨k, r1, r2⟩, rv, hh, ok⟩ := r
    obtain ⟨j, hj⟩ := kOf_ok ok (by simpa using h.1)
    rw [kOf_rel hj] at r1
    subst r1
    refine ⟨(j, e.val) :: vs, .cons (kV_is r2) rfl e1, .cons ⟨hj, rv⟩ e2, fun e' he => ?_⟩
    rcases List.mem_cons.mp he with rfl | he
    · exact ⟨j, kV_is r2, hh.trans (kOf_hash hj)⟩
    · exact e3 e' he
theorem lkeys {K : PySem.W.Frag} : ∀ {kvs : List (LV × LV)} {vs : List (Key × Value)}, Paired (LRel K μ H) kvs vs → (kvs.map fun p => nk p.1).Nodup → (vs.map (·.1)).Nodup
  | _, _, .nil, _ => List.nodup_nil
  | p :: kvs, q :: vs, .cons r t, h => by
    rw [List.map_cons, List.nodup_cons] at h ⊢
    refine ⟨fun m => h.1 ?_, lkeys t h.2⟩
    obtain ⟨q', hq, e⟩ := List.mem_map.mp m
    obtain ⟨p', hp, r'⟩ := paired_right t hq
    refine List.mem_map.mpr ⟨p', hp, ?_⟩
    exact (kOf_nk r'.1 r.1).mpr e
theorem lkeys' {K : PySem.W.Frag} : ∀ {kvs : List (LV × LV)} {vs : List (Key × Value)}, Paired (LRel K μ H) kvs vs → (vs.map (·.1)).Nodup → (kvs.map fun p => nk p.1).Nodup
  | _, _, .nil, _ => List.nodup_nil
  | p :: kvs, q :: vs, .cons r t, h => by
    rw [List.map_cons, List.nodup_cons] at h ⊢
    refine ⟨fun m => h.1 ?_, lkeys' t h.2⟩
    obtain ⟨p', hp, e⟩ := List.mem_map.mp m
    obtain ⟨i, hi⟩ := List.getElem?_of_mem hp
    obtain ⟨q', hq, r'⟩ := L2.paired_get t hi
    exact List.mem_map.mpr ⟨q', List.mem_of_getElem? hq, (kOf_nk r'.1 r.1).mp e⟩
theorem DRel.leaf (I : Inv X pins σ H s) {a : Addr} {o : Obj} {kvs : List (LV × LV)} (d : DRel X.w X.K μ H o kvs) (ha : H a = some (dX a o)) (t : (kvs.all fun p => !isTup p.1) = true) :
    ∃ vs, s.heap.DictOf (mixKind X.prog X.w) a vs ∧ Paired (LRel X.K μ H) kvs vs ∧ vs.length ≤ sizeLine := by
  obtain ⟨ex, ⟨es, ep, e1, e2, pr⟩, nd, _⟩ := d
  obtain ⟨vs, p1, p2, p3⟩ := lview_es (P := X.prog) pr t
  refine ⟨vs, ⟨o, es, ep, dX_at I.hok ha, ex, e1, fun e he => p3 e (by simpa using he), p1, lkeys p2 nd⟩, p2, ?_⟩
  have := p1.length
  rw [Array.length_toList] at this
  omega
theorem lview_back {w : World} {P : Program} {K : PySem.W.Frag} : ∀ {kvs : List (LV × LV)} {vs : List (Key × Value)} {es : List DictEntry}, Paired (LRel K μ H) kvs vs → Pairs (mixKind P w) es vs → (∀ e ∈ es, ∃ k, (mixKind P w).is k e.key = true ∧ e.hash = (mixKind P w).hash k) → Paired (ERel w K μ H) kvs es
  | _, _, _, .nil, .nil, _ => .nil
  | p :: kvs, q :: vs, e :: es, .cons r t, .cons h1 h2 h3, h => by
    obtain ⟨k, v, rv, r2⟩ := r
    have hk : keyIs q.1 e.key = true := h1
    obtain ⟨k', i', hh⟩ := h e List.mem_cons_self
    have ek : k' = q.1 := (mixKind P w).inj _ _ _ i' h1
    subst ek
    refine .cons ⟨⟨kV q.1, (kOf_rel k).mpr rfl, relV_key hk⟩, ⟨v, rv, by rw [h2]; exact r2⟩, hh.trans (kOf_hash k).symm, ?_⟩ (lview_back t h3 fun e' he => h e' (List.mem_cons_of_mem _ he))
    obtain ⟨pk, pv⟩ := p
    cases pk with
    | int i => rfl
    | str i => rfl
    | _ => cases k
theorem DRel.ofL {a : Addr} {h' : Heap} {kvs : List (LV × LV)} {vs : List (Key × Value)} (dd : h'.DictOf (mixKind X.prog X.w) a vs) (pt : Paired (LRel X.K μ H) kvs vs) (hz : kvs.length ≤ sizeLine) :
    ∃ o', h'.get? a = some o' ∧ DRel X.w X.K μ H o' kvs := by
  obtain ⟨o, es, ep, e, ex, e1, ks, e2, nd⟩ := dd
  refine ⟨o, e, ex, ⟨es, ep, e1, ?_, lview_back pt e2 fun e he => ks e (by simpa using he)⟩, lkeys' pt nd, .inr ?_⟩
  · have h1 := e2.length
    rw [Array.length_toList] at h1
    have h2 := Paired.length pt
    omega
  · rw [List.all_eq_true]
    intro p hp
    obtain ⟨i, hi⟩ := List.getElem?_of_mem hp
    obtain ⟨x, _, r⟩ := L2.paired_get pt hi
    obtain ⟨pk, pv⟩ := p
    cases pk with
    | tup xs => cases r.1
    | _ => rfl

/-! ### looking up, storing: the pairs -/
theorem tget {K : PySem.W.Frag} {k : LV} : ∀ {kvs : List (LV × LV)} {xs : List (NestedKey × Addr × Value)}, Paired (TRel K μ H) kvs xs →
    (dget kvs k = none ∧ atKey xs (nk k) = none) ∨ ∃ x b u v, dget kvs k = some x ∧ atKey xs (nk k) = some (b, u) ∧ VRel K μ H x v ∧ RelV v u
  | _, _, .nil => .inl ⟨rfl, rfl⟩
  | p :: kvs, x :: xs, .cons r t => by
    unfold dget
    by_cases e : keyEq p.1 k = true
    · rw [if_pos e]
      obtain ⟨e1, r1, ⟨v, rv, ru⟩, _⟩ := r
      have hk : x.1 = nk k := e1.trans (keyEq_iff.mp e)
      exact .inr ⟨p.2, x.2.1, x.2.2, v, rfl, by simp [atKey, hk], rv, ru⟩
    · rw [if_neg e]
      have hk : ¬ x.1 = nk k := fun z => e (keyEq_iff.mpr (r.1.symm.trans z))
      have ea : atKey (x :: xs) (nk k) = atKey xs (nk k) := by simp [atKey, List.find?_cons, hk]
      rw [ea]
      exact tget t
theorem tput {K : PySem.W.Frag} {k y : LV} {b : Addr} {v : V} {u : Value} (rk : VRel K μ H k (.ref b)) (rv : VRel K μ H y v) (ru : RelV v u) (ok : okKey k = true) (it : isTup k = true) : ∀ {kvs : List (LV × LV)} {xs : List (NestedKey × Addr × Value)}, Paired (TRel K μ H) kvs xs →
    (kvs.map fun p => nk p.1).Nodup → Paired (TRel K μ H) (dput kvs k y) (storedH xs (nk k) b u)
  | _, _, .nil, _ => .cons ⟨rfl, rk, ⟨v, rv, ru⟩, ok, it⟩ .nil
  | p :: kvs, x :: xs, .cons r t, nd => by
    unfold dput
    rw [List.map_cons, List.nodup_cons] at nd
    by_cases e : keyEq p.1 k = true
    · rw [if_pos e]
      have hk : x.1 = nk k := r.1.trans (keyEq_iff.mp e)
      have ea : (atKey (x :: xs) (nk k)).isSome = true := by simp [atKey, hk]
      have hn : nk k ∉ xs.map (·.1) := by rw [tkeys t, ← keyEq_iff.mp e]; exact nd.1
      unfold storedH
      rw [if_pos ea, List.map_cons, map_putAt_of_not_mem xs _ _ hn]
      refine .cons ?_ t
      obtain ⟨e1, r1, _, ok', it'⟩ := r
      show TRel K μ H (p.1, y) (putAt (nk k) u x)
      unfold putAt
      rw [if_pos hk]
      exact ⟨e1, r1, ⟨v, rv, ru⟩, ok', it'⟩
    · rw [if_neg e]
      have hk : ¬ x.1 = nk k := fun z => e (keyEq_iff.mpr (r.1.symm.trans z))
      have ea : atKey (x :: xs) (nk k) = atKey xs (nk k) := by simp [atKey, List.find?_cons, hk]
      have ih := tput rk rv ru ok it t nd.2
      unfold storedH at ih ⊢
      rw [ea]
      split
      · rename_i h
        rw [if_pos h] at ih
        rw [List.map_cons]
        refine .cons ?_ ih
        unfold putAt
        rw [if_neg hk]
        exact r
      · rename_i h
        rw [if_neg h] at ih
        exact .cons r ih
theorem tdel {K : PySem.W.Frag} {k : LV} : ∀ {kvs : List (LV × LV)} {xs : List (NestedKey × Addr × Value)}, Paired (TRel K μ H) kvs xs → (kvs.map fun p => nk p.1).Nodup → Paired (TRel K μ H) (ddel kvs k) (withoutH xs (nk k))
  | _, _, .nil, _ => .nil
  | p :: kvs, x :: xs, .cons r t, nd => by
    unfold ddel
    rw [List.map_cons, List.nodup_cons] at nd
    by_cases e : keyEq p.1 k = true
    · rw [if_pos e]
      have hk : x.1 = nk k := r.1.trans (keyEq_iff.mp e)
      have hn : nk k ∉ xs.map (·.1) := by rw [tkeys t, ← keyEq_iff.mp e]; exact nd.1
      have ew : withoutH (x :: xs) (nk k) = xs := by
        unfold withoutH
        rw [List.filter_cons]
        simp only [hk, decide_true, Bool.not_true, Bool.false_eq_true, if_false, ne_eq, not_true_eq_false, decide_false]
        rw [List.filter_eq_self]
        intro z hz
        simp only [decide_eq_true_eq, Bool.not_eq_true', decide_eq_false_iff_not]
        exact fun q => hn (List.mem_map.mpr ⟨z, hz, q⟩)
      rw [ew]
      exact t
    · rw [if_neg e]
      have hk : ¬ x.1 = nk k := fun z => e (keyEq_iff.mpr (r.1.symm.trans z))
      have ew : withoutH (x :: xs) (nk k) = x :: withoutH xs (nk k) := by
        unfold withoutH
        rw [List.filter_cons]
        simp [hk]
      rw [ew]
      exact .cons r (tdel t nd.2)
theorem lget {K : PySem.W.Frag} {k : LV} {j : Key} (hj : kOf k = some j) : ∀ {kvs : List (LV × LV)} {vs : List (Key × Value)}, Paired (LRel K μ H) kvs vs →
    (dget kvs k = none ∧ valueAt vs j = none) ∨ ∃ x u v, dget kvs k = some x ∧ valueAt vs j = some u ∧ VRel K μ H x v ∧ RelV v u
  | _, _, .nil => .inl ⟨rfl, rfl⟩
  | p :: kvs, q :: vs, .cons r t => by
    unfold dget
    by_cases e : keyEq p.1 k = true
    · rw [if_pos e]
      have hk : q.1 = j := (kOf_nk r.1 hj).mp (keyEq_iff.mp e)
      obtain ⟨_, v, rv, ru⟩ := r
      exact .inr ⟨p.2, q.2, v, rfl, by simp [valueAt, hk], rv, ru⟩
    · rw [if_neg e]
      have hk : ¬ q.1 = j := fun z => e (keyEq_iff.mpr ((kOf_nk r.1 hj).mpr z))
      have ea : valueAt (q :: vs) j = valueAt vs j := by simp [valueAt, List.find?_cons, hk]
      rw [ea]
      exact lget hj t
theorem map_same {j : Key} {u : Value} : ∀ {vs : List (Key × Value)}, j ∉ vs.map (·.1) → vs.map (fun kv => if kv.1 = j then (kv.1, u) else kv) = vs
  | [], _ => rfl
  | q :: vs, h => by
    rw [List.map_cons, List.mem_cons, not_or] at h
    rw [List.map_cons, if_neg (fun z => h.1 z.symm), map_same h.2]
theorem lput {K : PySem.W.Frag} {k y : LV} {j : Key} {v : V} {u : Value} (hj : kOf k = some j) (rv : VRel K μ H y v) (ru : RelV v u) : ∀ {kvs : List (LV × LV)} {vs : List (Key × Value)}, Paired (LRel K μ H) kvs vs → (kvs.map fun p => nk p.1).Nodup → Paired (LRel K μ H) (dput kvs k y) (stored vs j u)
  | _, _, .nil, _ => .cons ⟨hj, v, rv, ru⟩ .nil
  | p :: kvs, q :: vs, .cons r t, nd => by
    unfold dput
    have nd0 := nd
    rw [List.map_cons, List.nodup_cons] at nd
    by_cases e : keyEq p.1 k = true
    · rw [if_pos e]
      have hk : q.1 = j := (kOf_nk r.1 hj).mp (keyEq_iff.mp e)
      have hn : j ∉ vs.map (·.1) := by
        have h2 := lkeys (.cons r t) nd0
        rw [List.map_cons, List.nodup_cons, hk] at h2
        exact h2.1
      unfold stored
      rw [if_pos (by simp [hk]), List.map_cons, if_pos hk, map_same hn]
      exact .cons ⟨r.1, v, rv, ru⟩ t
    · rw [if_neg e]
      have hk : ¬ q.1 = j := fun z => e (keyEq_iff.mpr ((kOf_nk r.1 hj).mpr z))
      have ih := lput hj rv ru t nd.2
      unfold stored at ih ⊢
      rw [List.any_cons, decide_eq_false hk, Bool.false_or]
      split
      · rename_i h
        rw [if_pos h] at ih
        rw [List.map_cons, if_neg hk]
        exact .cons r ih
      · rename_i h
        rw [if_neg h] at ih
        exact .cons r ih
end
end LT

set_option Elab.async false
set_option linter.all false
set_option autoImplicit false
set_option maxRecDepth 100000
set_option maxHeartbeats 4000000
namespace LT
open PySem PySem.Spec L2

/-- a key may be asked of a dict -/
def dkey (kvs : List (LV × LV)) (k : LV) : Bool := okKey k && match kvs with
  | [] => true
  | p :: _ => isTup p.1 == isTup k
theorem dkey_kd {kvs : List (LV × LV)} {k : LV} (h : dkey kvs k = true) (kd : (kvs.all fun p => isTup p.1) = true ∨ (kvs.all fun p => !isTup p.1) = true) :
    okKey k = true ∧ ((isTup k = true ∧ (kvs.all fun p => isTup p.1) = true) ∨ (isTup k = false ∧ (kvs.all fun p => !isTup p.1) = true)) := by
  unfold dkey at h
  rw [Bool.and_eq_true_iff] at h
  refine ⟨h.1, ?_⟩
  cases kvs with
  | nil =>
    cases e : isTup k with
    | true => exact .inl ⟨rfl, rfl⟩
    | false => exact .inr ⟨rfl, rfl⟩
  | cons p r =>
    have e : isTup p.1 = isTup k := eq_of_beq h.2
    rcases kd with kd | kd
    · have e1 := kd
      rw [List.all_cons, Bool.and_eq_true_iff] at e1
      exact .inl ⟨e ▸ e1.1, kd⟩
    · have e1 := kd
      rw [List.all_cons, Bool.and_eq_true_iff] at e1
      refine .inr ⟨?_, kd⟩
      rw [← e]
      simpa using e1.1
section
variable {X : Cx} {G : Gm} {pins : List (Addr × Obj)} {σ : St} {H : Hp} {s : Shared} {μ : List Addr} {L : LH} {n : Nat} {a : Addr} {vv : Nat} {kvs : List (LV × LV)} {k : LV} {x : V} {u : Value} {E : Value → Shared → Prop}
theorem dct_of (hr : HRel G X.w X.K μ L H) (hn : L[n]? = some (.dct vv kvs)) (ha : μ[n]? = some a) : ∃ o, H a = some (dX a o) ∧ (a == sysModules) = false ∧ DRel X.w X.K μ H o kvs := hr.obj n a _ ha hn
theorem room8 (hu : X.A.units + 64 < cLine) : (nestedKind X.prog X.w).room X.A.in1 := by
  show X.A.units + 1 + 8 < cLine
  omega
theorem ld_in {Q : Value → Shared → Prop} (hu : X.A.units + 64 < cLine) (I : Inv X pins σ H s) (hr : HRel G X.w X.K μ L H) (hn : L[n]? = some (.dct vv kvs)) (ha : μ[n]? = some a) (rk : VRel X.K μ H k x) (ru : RelV x u) (ok : dkey kvs k = true)
    (h : ∀ s', Inv X pins σ H s' → Q (.bool (dget kvs k).isSome) s') : wpAny (model X.prog X.w) X.A (compareOp .In u (.ref a)) Q E s := by
  obtain ⟨o, ho, hm, d⟩ := dct_of hr hn ha
  obtain ⟨ok1, ⟨it, al⟩ | ⟨it, al⟩⟩ := dkey_kd ok d.kd
  · obtain ⟨xs, dd, pt, _⟩ := d.tup I ho al
    obtain ⟨b, rfl, rfl⟩ := isT_of it rk ru
    refine wpAny_in_heap (room8 hu) (is_of I it ok1 rk) hm dd ?_
    rcases tget (k := k) pt with ⟨e1, e2⟩ | ⟨x, b, u, v, e1, e2, _⟩
    · have q := h _ (I.tok (s.toks + (nestedKind X.prog X.w).draws (nk k)))
      rw [e1] at q; rw [e2]; exact q
    · have q := h _ (I.tok (s.toks + (nestedKind X.prog X.w).draws (nk k)))
      rw [e1] at q; rw [e2]; exact q
  · obtain ⟨vs, dd, pt, _⟩ := d.leaf I ho al
    obtain ⟨j, hj⟩ := kOf_ok ok1 it
    rw [kOf_rel hj] at rk
    subst rk
    refine wpAny_in_of (kV_is ru) hm dd.mapOf ?_
    rcases lget hj pt with ⟨e1, e2⟩ | ⟨x, u, v, e1, e2, _⟩
    · have q := h _ (I.tok (s.toks + 1))
      rw [e1] at q; rw [e2]; exact q
    · have q := h _ (I.tok (s.toks + 1))
      rw [e1] at q; rw [e2]; exact q
theorem ld_notIn {Q : Value → Shared → Prop} (hu : X.A.units + 64 < cLine) (I : Inv X pins σ H s) (hr : HRel G X.w X.K μ L H) (hn : L[n]? = some (.dct vv kvs)) (ha : μ[n]? = some a) (rk : VRel X.K μ H k x) (ru : RelV x u) (ok : dkey kvs k = true)
    (h : ∀ s', Inv X pins σ H s' → Q (.bool (!(dget kvs k).isSome)) s') : wpAny (model X.prog X.w) X.A (compareOp .NotIn u (.ref a)) Q E s := by
  obtain ⟨o, ho, hm, d⟩ := dct_of hr hn ha
  obtain ⟨ok1, ⟨it, al⟩ | ⟨it, al⟩⟩ := dkey_kd ok d.kd
  · obtain ⟨xs, dd, pt, _⟩ := d.tup I ho al
    obtain ⟨b, rfl, rfl⟩ := isT_of it rk ru
    refine PyProof.Rows.wpAny_notIn_heap (room8 hu) (is_of I it ok1 rk) hm dd ?_
    rcases tget (k := k) pt with ⟨e1, e2⟩ | ⟨x, b, u, v, e1, e2, _⟩
    · have q := h _ (I.tok (s.toks + (nestedKind X.prog X.w).draws (nk k)))
      rw [e1] at q; rw [e2]; exact q
    · have q := h _ (I.tok (s.toks + (nestedKind X.prog X.w).draws (nk k)))
      rw [e1] at q; rw [e2]; exact q
  · obtain ⟨vs, dd, pt, _⟩ := d.leaf I ho al
    obtain ⟨j, hj⟩ := kOf_ok ok1 it
    rw [kOf_rel hj] at rk
    subst rk
    refine wpAny_notIn_of (kV_is ru) hm dd.mapOf ?_
    rcases lget hj pt with ⟨e1, e2⟩ | ⟨x, u, v, e1, e2, _⟩
    · have q := h _ (I.tok (s.toks + 1))
      rw [e1] at q; rw [e2]; exact q
    · have q := h _ (I.tok (s.toks + 1))
      rw [e1] at q; rw [e2]; exact q
theorem ld_get {y : LV} {Q : Value → Shared → Prop} (hu : X.A.units + 64 < cLine) (I : Inv X pins σ H s) (hr : HRel G X.w X.K μ L H) (hn : L[n]? = some (.dct vv kvs)) (ha : μ[n]? = some a) (rk : VRel X.K μ H k x) (ru : RelV x u) (ok : dkey kvs k = true)
    (hy : dget kvs k = some y) (h : ∀ s' v w', Inv X pins σ H s' → VRel X.K μ H y v → RelV v w' → Q w' s') : wpAny (model X.prog X.w) X.A (getItem (.ref a) u) Q E s := by
  obtain ⟨o, ho, hm, d⟩ := dct_of hr hn ha
  obtain ⟨ok1, ⟨it, al⟩ | ⟨it, al⟩⟩ := dkey_kd ok d.kd
  · obtain ⟨xs, dd, pt, _⟩ := d.tup I ho al
    obtain ⟨b, rfl, rfl⟩ := isT_of it rk ru
    rcases tget (k := k) pt with ⟨e1, e2⟩ | ⟨x, b, u, v, e1, e2, rv, rw'⟩
    · rw [e1] at hy; cases hy
    · rw [e1] at hy; cases hy
      exact wpAny_getItem_heap (room8 hu) (is_of I it ok1 rk) dd e2 (h _ v u (I.tok _) rv rw')
  · obtain ⟨vs, dd, pt, _⟩ := d.leaf I ho al
    obtain ⟨j, hj⟩ := kOf_ok ok1 it
    rw [kOf_rel hj] at rk
    subst rk
    rcases lget hj pt with ⟨e1, e2⟩ | ⟨x, u, v, e1, e2, rv, rw'⟩
    · rw [e1] at hy; cases hy
    · rw [e1] at hy; cases hy
      exact wpAny_getItem_of (kV_is ru) dd.mapOf e2 (h _ v u (I.tok _) rv rw')
/-- d.get(k, z) -/
theorem ld_get2 {z : LV} {zv : V} {zu : Value} {Q : Value → Shared → Prop} (hu : X.A.units + 64 < cLine) (I : Inv X pins σ H s) (hr : HRel G X.w X.K μ L H) (hn : L[n]? = some (.dct vv kvs)) (ha : μ[n]? = some a) (rk : VRel X.K μ H k x) (ru : RelV x u) (ok : dkey kvs k = true)
    (rz : VRel X.K μ H z zv) (rzu : RelV zv zu) (h : ∀ s' v w', Inv X pins σ H s' → VRel X.K μ H ((dget kvs k).getD z) v → RelV v w' → Q w' s') : wpAny (model X.prog X.w) X.A (call (.builtin "dict.get") [.ref a, u, zu]) Q E s := by
  obtain ⟨o, ho, hm, d⟩ := dct_of hr hn ha
  obtain ⟨ok1, ⟨it, al⟩ | ⟨it, al⟩⟩ := dkey_kd ok d.kd
  · obtain ⟨xs, dd, pt, _⟩ := d.tup I ho al
    obtain ⟨b, rfl, rfl⟩ := isT_of it rk ru
    refine call_meetsIn PySem.F.slot_dict_get dd.typeIs PySem.F.entry_dict_get (PySem.F.args_dict_get_3 _ _ _) (meetsH_dict_get_default (nestedKind X.prog X.w) a b hm zu) ⟨room8 hu, nk k, xs, is_of I it ok1 rk, dd, ?_⟩
    rcases tget (k := k) pt with ⟨e1, e2⟩ | ⟨x, b, u, v, e1, e2, rv, rw'⟩
    · rw [e1] at h; rw [e2]; exact h _ zv zu (I.tok _) rz rzu
    · rw [e1] at h; rw [e2]; exact h _ v u (I.tok _) rv rw'
  · obtain ⟨vs, dd, pt, _⟩ := d.leaf I ho al
    obtain ⟨j, hj⟩ := kOf_ok ok1 it
    rw [kOf_rel hj] at rk
    subst rk
    refine call_meetsIn PySem.F.slot_dict_get dd.typeIs PySem.F.entry_dict_get (PySem.F.args_dict_get_3 _ _ _) (meets_dict_get_default (mixKind X.prog X.w) a (kV_is ru) hm zu) ⟨_, dd.mapOf, ?_⟩
    rcases lget hj pt with ⟨e1, e2⟩ | ⟨x, u, v, e1, e2, rv, rw'⟩
    · rw [e1] at h; rw [e2]; exact h _ zv zu (I.tok _) rz rzu
    · rw [e1] at h; rw [e2]; exact h _ v u (I.tok _) rv rw'
/-- a dict of ours is changed -/
theorem ld_write {h' : Heap} {t' : Nat} {o o' : Obj} {kvs' : List (LV × LV)} (I : Inv X pins σ H s) (hr : HRel G X.w X.K μ L H) (hn : L[n]? = some (.dct vv kvs)) (ha : μ[n]? = some a) (ho : H a = some (dX a o)) (hm : (a == sysModules) = false)
    (hs : Heap.SameBut a s.heap h') (e : h'.get? a = some o') (d : DRel X.w X.K μ H o' kvs') : Inv X pins σ (upd H a (dX a o')) { s with heap := h', toks := t' } ∧ Le μ L H μ (L.set n (.dct (vv + 1) kvs')) (upd H a (dX a o')) ∧ HRel G X.w X.K μ (L.set n (.dct (vv + 1) kvs')) (upd H a (dX a o')) := by
  refine ⟨d_write I (by rw [ho]; exact True.intro) hs ⟨o', e⟩ (dX_ok e), ?_⟩
  exact hr.obj_set ha (o := dX a o') (u := .dct (vv + 1) kvs') (fun L' le => ⟨o', upd_same, hm, d.le le⟩) fun v' kvs'' e => by
    rw [hn] at e
    cases e
    exact ⟨vv + 1, kvs', rfl, Nat.lt_succ_self _⟩
theorem dput_len (k y : LV) : ∀ kvs : List (LV × LV), (dput kvs k y).length ≤ kvs.length + 1
  | [] => Nat.le_refl _
  | p :: r => by
    unfold dput
    split
    · simp
    · have := dput_len k y r
      simp only [List.length_cons]
      omega
/-- d[k] = y -/
theorem ld_set {y : LV} {v : V} {w' : Value} {Q : Unit → Shared → Prop} (hu : X.A.units + 64 < cLine) (I : Inv X pins σ H s) (hr : HRel G X.w X.K μ L H) (hn : L[n]? = some (.dct vv kvs)) (ha : μ[n]? = some a) (rk : VRel X.K μ H k x) (ru : RelV x u) (ok : dkey kvs k = true)
    (rv : VRel X.K μ H y v) (rw' : RelV v w') (hz : kvs.length < sizeLine) (h : ∀ s' o', Inv X pins σ (upd H a (dX a o')) s' → Le μ L H μ (L.set n (.dct (vv + 1) (dput kvs k y))) (upd H a (dX a o')) → HRel G X.w X.K μ (L.set n (.dct (vv + 1) (dput kvs k y))) (upd H a (dX a o')) → Q () s') :
    wpAny (model X.prog X.w) X.A (setItem (.ref a) u w') Q E s := by
  obtain ⟨o, ho, hm, d⟩ := dct_of hr hn ha
  have hz' : (dput kvs k y).length ≤ sizeLine := Nat.le_trans (dput_len k y kvs) hz
  obtain ⟨ok1, ⟨it, al⟩ | ⟨it, al⟩⟩ := dkey_kd ok d.kd
  · obtain ⟨xs, dd, pt, hx⟩ := d.tup I ho al
    obtain ⟨b, rfl, rfl⟩ := isT_of it rk ru
    refine wpAny_setItem_heap (hsz := hx) (room8 hu) (is_of I it ok1 rk) dd fun h' dd' hs => ?_
    obtain ⟨o', e, d'⟩ := DRel.ofT dd' (tput rk rv rw' ok1 it pt d.nd) hz'
    obtain ⟨I', le, hr'⟩ := ld_write (t' := s.toks + (nestedKind X.prog X.w).draws (nk k)) I hr hn ha ho hm hs e d'
    exact h _ o' I' le hr'
  · obtain ⟨vs, dd, pt, hx⟩ := d.leaf I ho al
    obtain ⟨j, hj⟩ := kOf_ok ok1 it
    rw [kOf_rel hj] at rk
    subst rk
    refine wpAny_setItem_pairs (hsz := hx) (kV_is ru) dd fun h' dd' hs => ?_
    obtain ⟨o', e, d'⟩ := DRel.ofL dd' (lput hj rv rw' pt d.nd) hz'
    obtain ⟨I', le, hr'⟩ := ld_write (t' := s.toks + 1) I hr hn ha ho hm hs e d'
    exact h _ o' I' le hr'
/-- d.setdefault(k, z) -/
theorem ld_setdef {z : LV} {zv : V} {zu : Value} {Q : Value → Shared → Prop} (hu : X.A.units + 64 < cLine) (I : Inv X pins σ H s) (hr : HRel G X.w X.K μ L H) (hn : L[n]? = some (.dct vv kvs)) (ha : μ[n]? = some a) (rk : VRel X.K μ H k x) (ru : RelV x u) (ok : dkey kvs k = true)
    (rz : VRel X.K μ H z zv) (rzu : RelV zv zu) (hz : kvs.length < sizeLine) (h1 : ∀ y s' v w', dget kvs k = some y → Inv X pins σ H s' → VRel X.K μ H y v → RelV v w' → Q w' s')
    (h2 : dget kvs k = none → ∀ s' o', Inv X pins σ (upd H a (dX a o')) s' → Le μ L H μ (L.set n (.dct (vv + 1) (dput kvs k z))) (upd H a (dX a o')) → HRel G X.w X.K μ (L.set n (.dct (vv + 1) (dput kvs k z))) (upd H a (dX a o')) → Q zu s') :
    wpAny (model X.prog X.w) X.A (call (.builtin "dict.setdefault") [.ref a, u, zu]) Q E s := by
  obtain ⟨o, ho, hm, d⟩ := dct_of hr hn ha
  have hz' : (dput kvs k z).length ≤ sizeLine := Nat.le_trans (dput_len k z kvs) hz
  obtain ⟨ok1, ⟨it, al⟩ | ⟨it, al⟩⟩ := dkey_kd ok d.kd
  · obtain ⟨xs, dd, pt, hx⟩ := d.tup I ho al
    obtain ⟨b, rfl, rfl⟩ := isT_of it rk ru
    refine call_meetsIn PySem.F.slot_dict_setdefault dd.typeIs PySem.F.entry_dict_setdefault (PySem.F.args_dict_setdefault_3 _ _ _) (meetsH_dict_setdefault (nestedKind X.prog X.w) a b hm zu) ⟨room8 hu, nk k, xs, is_of I it ok1 rk, dd, hx, fun p hp => ?_, fun hp h' dd' hs => ?_⟩
    · rcases tget (k := k) pt with ⟨e1, e2⟩ | ⟨x, b, u, v, e1, e2, rv, rw'⟩
      · rw [e2] at hp; cases hp
      · rw [e2] at hp; cases hp
        exact h1 x _ v _ e1 (I.tok _) rv rw'
    · rcases tget (k := k) pt with ⟨e1, e2⟩ | ⟨x, b, u, v, e1, e2, rv, rw'⟩
      · obtain ⟨o', e, d'⟩ := DRel.ofT dd' (tput rk rz rzu ok1 it pt d.nd) hz'
        obtain ⟨I', le, hr'⟩ := ld_write (t' := s.toks + (nestedKind X.prog X.w).draws (nk k)) I hr hn ha ho hm hs e d'
        exact h2 e1 _ o' I' le hr'
      · rw [e2] at hp; cases hp
  · obtain ⟨vs, dd, pt, hx⟩ := d.leaf I ho al
    obtain ⟨j, hj⟩ := kOf_ok ok1 it
    rw [kOf_rel hj] at rk
    subst rk
    refine call_meetsIn PySem.F.slot_dict_setdefault dd.typeIs PySem.F.entry_dict_setdefault (PySem.F.args_dict_setdefault_3 _ _ _) (kt_meets_setdefault (mixKind X.prog X.w) a (kV_is ru) hm zu) ⟨vs, dd, hx, fun p hp => ?_, fun hp h' dd' hs => ?_⟩
    · rcases lget hj pt with ⟨e1, e2⟩ | ⟨x, u, v, e1, e2, rv, rw'⟩
      · rw [e2] at hp; cases hp
      · rw [e2] at hp; cases hp
        exact h1 x _ v _ e1 (I.tok _) rv rw'
    · rcases lget hj pt with ⟨e1, e2⟩ | ⟨x, u, v, e1, e2, rv, rw'⟩
      · obtain ⟨o', e, d'⟩ := DRel.ofL dd' (lput hj rz rzu pt d.nd) hz'
        obtain ⟨I', le, hr'⟩ := ld_write (t' := s.toks + 1) I hr hn ha ho hm hs e d'
        exact h2 e1 _ o' I' le hr'
      · rw [e2] at hp; cases hp
end
end LT

set_option Elab.async false
set_option linter.all false
set_option autoImplicit false
set_option maxRecDepth 100000
set_option maxHeartbeats 400000
/-! None asked of a dict whose keys are tuples -/
namespace LT
open PySem PySem.Spec L2
section
variable {prog : Program} {w : World} {A : Around} {E : Value → Shared → Prop} {s : Shared}
theorem nk_not_none {h : Heap} {k : NestedKey} {a : Addr} (r : (nestedKind prog w).is h k a) : NestedKey.beq k .none = false := by
  obtain ⟨r, _⟩ := r
  cases r
  rfl
theorem mayTell_none {stored : List Value} {Q : Bool → Shared → Prop}
    (hst : ∀ v ∈ stored, ∃ k' b, v = .ref b ∧ (nestedKind prog w).is s.heap k' b) (h : Q false s) : wpAny (model prog w) A (tableMayTell .none stored) Q E s := by
  unfold tableMayTell
  split
  · exact wpAny_pure h
  · refine wpAny_bind (QuietAt.byValue rfl _ _ _ ?_)
    simp only [Bool.not_true, Bool.false_eq_true, if_false]
    refine wpAny_bind ?_
    refine wpAny_forIn_list _ (fun rest r s' => s' = s ∧ r = (none, ()) ∧ ∀ v ∈ rest, ∃ k' b, v = .ref b ∧ (nestedKind prog w).is s.heap k' b) _ ?_ ?_ _ _ ⟨rfl, rfl, hst⟩
    · rintro x rest r s' ⟨rfl, rfl, hr⟩
      obtain ⟨k', b, rfl, hb⟩ := hr x List.mem_cons_self
      refine wpAny_bind ((nestedKind prog w).quiet hb ?_)
      simp only [Bool.not_true, Bool.false_eq_true, if_false]
      exact wpAny_pure ⟨rfl, rfl, fun v hv => hr v (List.mem_cons_of_mem _ hv)⟩
    · rintro r s' ⟨rfl, rfl, _⟩
      exact wpAny_pure h
theorem find_none {d : Addr} {o : Obj} {es ep} {xs : List (NestedKey × Addr × Value)} {hh : Int} {Q : Option Nat → Shared → Prop} (hu : (nestedKind prog w).room A)
    (ho : s.heap.get? d = some o) (hd : o.data = .dict es ep) (he : es.toList = xs.map (entryOfKey (nestedKind prog w))) (his : ∀ x ∈ xs, (nestedKind prog w).is s.heap x.1 x.2.1)
    (hQ : Q none s) : wpAny (model prog w) A (dictFind d .none hh) Q E s := by
  have hmem : ∀ e ∈ es, ∃ x ∈ xs, e = entryOfKey (nestedKind prog w) x := by
    intro e hin
    have : e ∈ xs.map (entryOfKey (nestedKind prog w)) := he ▸ Array.mem_toList_iff.mpr hin
    obtain ⟨x, hx, rfl⟩ := List.mem_map.mp this
    exact ⟨x, hx, rfl⟩
  have hst : ∀ v ∈ (placesWithHash es.size (fun i => es[i]?.map (·.hash)) hh).filterMap (fun i => es[i]?.map (·.key)), ∃ k' b, v = .ref b ∧ (nestedKind prog w).is s.heap k' b := by
    intro v hv
    obtain ⟨i, _, hi⟩ := List.mem_filterMap.mp hv
    cases hei : es[i]? with
    | none => rw [hei] at hi; cases hi
    | some e =>
      rw [hei] at hi
      obtain rfl : e.key = v := by simpa using hi
      obtain ⟨x, hx, rfl⟩ := hmem e (Array.mem_of_getElem? hei)
      exact ⟨x.1, x.2.1, rfl, his x hx⟩
  have step : ∀ (e : DictEntry), e ∈ es → ∀ (Q' : Bool → Shared → Prop), Q' false s → wpAny (model prog w) A (eqBool e.key .none) Q' E s := by
    intro e hin Q' q
    obtain ⟨x, hx, rfl⟩ := hmem e hin
    have hib := his x hx
    refine eqAt_key x.1 .none A s _ _ hib.1 .none (by
      have : A.units + 8 < cLine := hu
      simp only [NestedKey.depth]
      omega) _ _ _ _ ?_
    rw [nk_not_none hib]
    exact q
  unfold dictFind
  try with_reducible refine wpAny_holding ?_
  refine wpAny_bind (wpAny_dictEntries ho hd ?_)
  dsimp only
  by_cases hall : ((Value.none :: (placesWithHash es.size (fun i => es[i]?.map (·.hash)) hh).filterMap (fun i => es[i]?.map (·.key))).all carriedByValue) = true
  · rw [if_pos hall]
    unfold dictWalkPlain
    refine wpAny_bind ?_
    refine wpAny_forIn_list _ (fun rest b s' => s' = s ∧ b = (none, ())) _ ?_ ?_ _ _ ⟨rfl, rfl⟩
    · rintro x rest b s' ⟨rfl, rfl⟩
      cases hex : es[x]? with
      | none => exact wpAny_pure ⟨rfl, rfl⟩
      | some e =>
        dsimp only
        split
        · refine wpAny_bind (wpAny_dictEpoch ho hd (wpAny_bind (step e (Array.mem_of_getElem? hex) _ (wpAny_bind (wpAny_dictEpoch ho hd ?_)))))
          show wpAny _ _ (if (ep != ep) = true then _ else _) _ E _
          rw [if_neg (by simp)]
          simp only [Bool.false_eq_true, if_false]
          first
            | exact wpAny_bind (wpAny_rule (wpAny_pure ⟨rfl, rfl⟩))
            | exact wpAny_bind (wpAny_pure (wpAny_bind (wpAny_rule (wpAny_pure ⟨rfl, rfl⟩))))
        · exact wpAny_pure ⟨rfl, rfl⟩
    · rintro b s' ⟨rfl, rfl⟩
      exact wpAny_pure hQ
  · rw [if_neg hall]
    by_cases hone : (((placesWithHash es.size (fun i => es[i]?.map (·.hash)) hh).filterMap (fun i => es[i]?.map (·.key))) == [Value.none]) = true <;>
    (first | rw [if_pos hone] | rw [if_neg hone]) <;> (first | refine wpAny_bind (wpAny_pure ?_) | refine wpAny_bind (mayTell_none hst ?_)) <;> (
      rw [if_neg (by simp)]
      refine wpAny_bind ?_
      refine wpAny_forIn_list _ (fun rest b s' => s' = s ∧ b = (none, none)) _ ?_ ?_ _ _ ⟨rfl, rfl⟩
      · rintro x rest b s' ⟨rfl, rfl⟩
        cases hex : es[x]? with
        | none => exact wpAny_pure ⟨rfl, rfl⟩
        | some e =>
          dsimp only
          split
          · refine wpAny_bind (wpAny_dictEpoch ho hd (wpAny_bind (step e (Array.mem_of_getElem? hex) _ (wpAny_bind (wpAny_dictEpoch ho hd ?_)))))
            show wpAny _ _ (if (ep != ep) = true then _ else _) _ E _
            rw [if_neg (by simp)]
            simp only [Bool.false_eq_true, if_false]
            first
              | exact wpAny_bind (wpAny_rule (wpAny_pure ⟨rfl, rfl⟩))
              | exact wpAny_bind (wpAny_pure (wpAny_bind (wpAny_rule (wpAny_pure ⟨rfl, rfl⟩))))
          · exact wpAny_pure ⟨rfl, rfl⟩
      · rintro b s' ⟨rfl, rfl⟩
        exact wpAny_pure hQ)
theorem get_none {d : Addr} {xs : List (NestedKey × Addr × Value)} {Q : Option Value → Shared → Prop} (hu : (nestedKind prog w).room A) (hm : s.heap.DictOfH (nestedKind prog w) d xs)
    (h : Q none { s with toks := s.toks + NestedKey.draws .none }) : wpAny (model prog w) A (dictGet d .none) Q E s := by
  obtain ⟨o, es, ep, ho, _, hd, he, his, hn⟩ := hm
  unfold dictGet
  try with_reducible refine wpAny_holding ?_
  exact wpAny_bind (pyHash_key .none .none A s _ .none (by
    have : A.units + 8 < cLine := hu
    simp only [NestedKey.depth]
    omega) (wpAny_bind (find_none (s := { s with toks := s.toks + NestedKey.draws .none }) hu ho hd he his (wpAny_pure h))))
theorem in_none {d : Addr} {xs : List (NestedKey × Addr × Value)} {Q : Value → Shared → Prop} (hu : (nestedKind prog w).room A.in1) (hd : (d == sysModules) = false) (hm : s.heap.DictOfH (nestedKind prog w) d xs)
    (h : Q (.bool false) { s with toks := s.toks + NestedKey.draws .none }) : wpAny (model prog w) A (compareOp .In .none (.ref d)) Q E s := by
  show wpAny _ _ (do return .bool (← contains (.ref d) .none)) Q E s
  refine wpAny_bind ?_
  unfold contains
  try with_reducible refine wpAny_holding ?_
  refine wpAny_bind (wpAny_specialOf hm.typeIs slot_dict_contains.lookup ?_)
  show wpAny _ _ (if (some (Value.builtin "dict.__contains__") == some Value.none) = true then _ else _) _ E s
  rw [if_neg (by rw [beq_builtin_none]; exact Bool.false_ne_true)]
  refine wpAny_bind (wpAny_callSpecialUnlessNone?_slot (name := Str.ofString "__contains__") hm.typeIs slot_dict_contains
    (wpAny_call_entry slot_dict_contains hm.typeIs entry_dict_contains ?_ (args_dict_contains _ _)))
  show wpAny _ _ (dictGet d .none >>= _) _ _ s
  refine wpAny_bind (get_none hu hm ?_)
  show wpAny _ _ (Builtin.Dict.pendingKey? d .none >>= _) _ _ _
  exact wpAny_bind (wpAny_pendingKey_other hd (wpAny_pure ⟨_, rfl, wpAny_truthy_bool (wpAny_pure h)⟩))
theorem notIn_none {d : Addr} {xs : List (NestedKey × Addr × Value)} {Q : Value → Shared → Prop} (hu : (nestedKind prog w).room A.in1) (hd : (d == sysModules) = false) (hm : s.heap.DictOfH (nestedKind prog w) d xs)
    (h : Q (.bool true) { s with toks := s.toks + NestedKey.draws .none }) : wpAny (model prog w) A (compareOp .NotIn .none (.ref d)) Q E s := by
  show wpAny _ _ (do return .bool (!(← contains (.ref d) .none))) Q E s
  refine wpAny_bind ?_
  unfold contains
  try with_reducible refine wpAny_holding ?_
  refine wpAny_bind (wpAny_specialOf hm.typeIs slot_dict_contains.lookup ?_)
  show wpAny _ _ (if (some (Value.builtin "dict.__contains__") == some Value.none) = true then _ else _) _ E s
  rw [if_neg (by rw [beq_builtin_none]; exact Bool.false_ne_true)]
  refine wpAny_bind (wpAny_callSpecialUnlessNone?_slot (name := Str.ofString "__contains__") hm.typeIs slot_dict_contains
    (wpAny_call_entry slot_dict_contains hm.typeIs entry_dict_contains ?_ (args_dict_contains _ _)))
  show wpAny _ _ (dictGet d .none >>= _) _ _ s
  refine wpAny_bind (get_none hu hm ?_)
  show wpAny _ _ (Builtin.Dict.pendingKey? d .none >>= _) _ _ _
  exact wpAny_bind (wpAny_pendingKey_other hd (wpAny_pure ⟨_, rfl, wpAny_truthy_bool (wpAny_pure h)⟩))
end
section
variable {X : Cx} {G : Gm} {pins : List (Addr × Obj)} {σ : St} {H : Hp} {s : Shared} {μ : List Addr} {L : LH} {n : Nat} {a : Addr} {vv : Nat} {kvs : List (LV × LV)} {E : Value → Shared → Prop}
theorem ld_inN {Q : Value → Shared → Prop} (hu : X.A.units + 64 < cLine) (I : Inv X pins σ H s) (hr : HRel G X.w X.K μ L H) (hn : L[n]? = some (.dct vv kvs)) (ha : μ[n]? = some a) (al : (kvs.all fun p => isTup p.1) = true)
    (h : ∀ s', Inv X pins σ H s' → Q (.bool false) s') : wpAny (model X.prog X.w) X.A (compareOp .In .none (.ref a)) Q E s := by
  obtain ⟨o, ho, hm, d⟩ := dct_of hr hn ha
  obtain ⟨xs, dd, pt, _⟩ := d.tup I ho al
  exact in_none (room8 hu) hm dd (h _ (I.tok _))
theorem ld_notInN {Q : Value → Shared → Prop} (hu : X.A.units + 64 < cLine) (I : Inv X pins σ H s) (hr : HRel G X.w X.K μ L H) (hn : L[n]? = some (.dct vv kvs)) (ha : μ[n]? = some a) (al : (kvs.all fun p => isTup p.1) = true)
    (h : ∀ s', Inv X pins σ H s' → Q (.bool true) s') : wpAny (model X.prog X.w) X.A (compareOp .NotIn .none (.ref a)) Q E s := by
  obtain ⟨o, ho, hm, d⟩ := dct_of hr hn ha
  obtain ⟨xs, dd, pt, _⟩ := d.tup I ho al
  exact notIn_none (room8 hu) hm dd (h _ (I.tok _))
end
end LT

set_option Elab.async false
set_option linter.all false
set_option autoImplicit false
set_option maxRecDepth 100000
set_option maxHeartbeats 4000000
namespace LT
open PySem PySem.Spec L2

/-! ### ==, != of data, of dicts with an empty one; in -/
def eqV : Op2 := fun x y L => match eqL L x y with
  | some b => some (.bl b, L)
  | none => none
def neV : Op2 := fun x y L => match eqL L x y with
  | some b => some (.bl (!b), L)
  | none => none
def inS (L : LH) (x y : LV) : Option Bool := match dat L x, dat L y with
  | some d, some (.tuple ds) => some (ds.any fun z => PyData.eqv z d)
  | some d, some (.list ds) => some (ds.any fun z => PyData.eqv z d)
  | _, _ => none
/-- x in y -/
def inL (L : LH) (x y : LV) : Option Bool := match y with
  | .ref n => (match L[n]? with
    | some (.dct _ kvs) => if dkey kvs x = true then some (dget kvs x).isSome else (match x with
      | .non => if (kvs.all fun p => isTup p.1) = true then some false else none
      | _ => none)
    | _ => inS L x y)
  | .str j => (match x with
    | .str i => some (!(Builtin.Str.occurrences j i 0 j.length 1).isEmpty)
    | _ => none)
  | _ => inS L x y
def inV : Op2 := fun x y L => match inL L x y with
  | some b => some (.bl b, L)
  | none => none
def notInV : Op2 := fun x y L => match inL L x y with
  | some b => some (.bl (!b), L)
  | none => none
section
variable {X : Cx} {G : Gm}
theorem eqL_some {L : LH} {x y : LV} {b : Bool} (h : eqL L x y = some b) : ∃ d e, dat L x = some d ∧ dat L y = some e ∧ b = PyData.eqv d e := by
  unfold eqL at h
  split at h
  · rename_i d hd
    split at h
    · rename_i e he
      cases h
      exact ⟨d, e, hd, he, rfl⟩
    · cases h
  · cases h
theorem jo_eq (hu : X.A.units + 64 < cLine) : JOp X G (compareOp .Eq) eqV := by
  intro pins s σ H x y v u Q I rx ry h
  obtain ⟨μ, L, a, b, hr, ra, rb, o⟩ := h
  unfold eqV at o
  split at o
  · rename_i r h
    obtain ⟨d, e, hd, he, rfl⟩ := eqL_some h
    obtain ⟨p1, s1⟩ := dat_dp hr hd ra
    obtain ⟨p2, s2⟩ := dat_dp hr he rb
    exact op_eqD hu pins s σ H x y v u Q I rx ry ⟨d, e, p1, p2, s1, s2, o.here hr rfl⟩
  · exact o.elim
theorem jo_ne (hu : X.A.units + 64 < cLine) : JOp X G (compareOp .NotEq) neV := by
  intro pins s σ H x y v u Q I rx ry h
  obtain ⟨μ, L, a, b, hr, ra, rb, o⟩ := h
  unfold neV at o
  split at o
  · rename_i r h
    obtain ⟨d, e, hd, he, rfl⟩ := eqL_some h
    obtain ⟨p1, s1⟩ := dat_dp hr hd ra
    obtain ⟨p2, s2⟩ := dat_dp hr he rb
    exact op_neD hu pins s σ H x y v u Q I rx ry ⟨d, e, p1, p2, s1, s2, o.here hr rfl⟩
  · exact o.elim
theorem inS_some {L : LH} {x y : LV} {b : Bool} (h : inS L x y = some b) : ∃ d ds, dat L x = some d ∧ (dat L y = some (.tuple ds) ∨ dat L y = some (.list ds)) ∧ b = ds.any fun z => PyData.eqv z d := by
  unfold inS at h
  split at h
  · rename_i d ds h1 h2
    cases h
    exact ⟨d, ds, h1, .inl h2, rfl⟩
  · rename_i d ds h1 h2
    cases h
    exact ⟨d, ds, h1, .inr h2, rfl⟩
  · cases h
theorem room_tup {A : Around} {d : PyData} {n : Nat} (h : SeqAt.shaped d = true) (hu : A.units + 65 < cLine) : A.units + 1 + min n d.depth < cLine := by
  have h1 := SeqAt.depth_of_shaped h
  have h2 : min n d.depth ≤ d.depth := Nat.min_le_right _ _
  omega
theorem inS_in (hu : X.A.units + 65 < cLine) {pins : List (Addr × Obj)} {s : Shared} {σ : St} {H : Hp} {x y : V} {v u : Value} {Q : Value → Shared → Prop} {E : Value → Shared → Prop} (I : Inv X pins σ H s) (rx : RelV x v) (ry : RelV y u) {μ : List Addr} {L : LH} {a b : LV} {r : Bool}
    (hr : HRel G X.w X.K μ L H) (ra : VRel X.K μ H a x) (rb : VRel X.K μ H b y) (e : inS L a b = some r) (h : Q (.bool r) s) : wpAny (model X.prog X.w) X.A (compareOp .In v u) Q E s := by
  obtain ⟨d, ds, hd, ht, rfl⟩ := inS_some e
  obtain ⟨p1, s1⟩ := dat_dp hr hd ra
  obtain ⟨as, r1⟩ := Dp.reads I d x v p1 rx
  rcases ht with ht | ht
  · obtain ⟨p2, s2⟩ := dat_dp hr ht rb
    obtain ⟨bs, r2⟩ := Dp.reads I (.tuple ds) y u p2 ry
    exact SeqAt.in_tuple_reads r2 r1 (SeqAt.canLay_of_shaped s2) (SeqAt.canLay_of_shaped s1) (room_tup s1 hu) h
  · obtain ⟨p2, s2⟩ := dat_dp hr ht rb
    obtain ⟨bs, r2⟩ := Dp.reads I (.list ds) y u p2 ry
    exact SeqAt.in_list_reads r2 r1 (SeqAt.canLay_of_shaped s2) (SeqAt.canLay_of_shaped s1) (room_tup s1 hu) h
theorem inS_notIn (hu : X.A.units + 65 < cLine) {pins : List (Addr × Obj)} {s : Shared} {σ : St} {H : Hp} {x y : V} {v u : Value} {Q : Value → Shared → Prop} {E : Value → Shared → Prop} (I : Inv X pins σ H s) (rx : RelV x v) (ry : RelV y u) {μ : List Addr} {L : LH} {a b : LV} {r : Bool}
    (hr : HRel G X.w X.K μ L H) (ra : VRel X.K μ H a x) (rb : VRel X.K μ H b y) (e : inS L a b = some r) (h : Q (.bool (!r)) s) : wpAny (model X.prog X.w) X.A (compareOp .NotIn v u) Q E s := by
  obtain ⟨d, ds, hd, ht, rfl⟩ := inS_some e
  obtain ⟨p1, s1⟩ := dat_dp hr hd ra
  obtain ⟨as, r1⟩ := Dp.reads I d x v p1 rx
  rcases ht with ht | ht
  · obtain ⟨p2, s2⟩ := dat_dp hr ht rb
    obtain ⟨bs, r2⟩ := Dp.reads I (.tuple ds) y u p2 ry
    exact SeqAt.notIn_tuple_reads r2 r1 (SeqAt.canLay_of_shaped s2) (SeqAt.canLay_of_shaped s1) (room_tup s1 hu) h
  · obtain ⟨p2, s2⟩ := dat_dp hr ht rb
    obtain ⟨bs, r2⟩ := Dp.reads I (.list ds) y u p2 ry
    exact SeqAt.notIn_list_reads r2 r1 (SeqAt.canLay_of_shaped s2) (SeqAt.canLay_of_shaped s1) (room_tup s1 hu) h
theorem jo_in (hu : X.A.units + 65 < cLine) : JOp X G (compareOp .In) inV := by
  intro pins s σ H x y v u Q I rx ry h
  obtain ⟨μ, L, a, b, hr, ra, rb, o⟩ := h
  unfold inV at o
  split at o
  · rename_i r h
    have fin : ∀ s', Inv X pins σ H s' → EP X pins σ Q (.bool r) s' := fun s' I' => ⟨.bl r, H, I', rfl, o.here hr rfl⟩
    unfold inL at h
    split at h
    · rename_i n
      obtain ⟨p, hp, rfl⟩ := rb
      cases ry
      split at h
      · rename_i vv kvs hn
        split at h
        · rename_i hk
          cases h
          exact ld_in (by omega) I hr hn hp ra rx hk fin
        · split at h
          · split at h
            · rename_i al
              cases h
              cases ra
              cases rx
              exact ld_inN (by omega) I hr hn hp al fin
            · cases h
          · cases h
      · exact inS_in (y := .ref p) (b := .ref n) hu I rx rfl hr ra ⟨p, hp, rfl⟩ h (fin s I)
    · split at h
      · cases h
        cases rb
        cases ra
        exact op_in_str pins s σ H _ _ v u Q I rx ry ⟨_, _, rfl, rfl, o.here hr rfl⟩
      · cases h
    · exact inS_in hu I rx ry hr ra rb h (fin s I)
  · exact o.elim
theorem jo_notIn (hu : X.A.units + 65 < cLine) : JOp X G (compareOp .NotIn) notInV := by
  intro pins s σ H x y v u Q I rx ry h
  obtain ⟨μ, L, a, b, hr, ra, rb, o⟩ := h
  unfold notInV at o
  split at o
  · rename_i r h
    have fin : ∀ s', Inv X pins σ H s' → EP X pins σ Q (.bool (!r)) s' := fun s' I' => ⟨.bl (!r), H, I', rfl, o.here hr rfl⟩
    unfold inL at h
    split at h
    · rename_i n
      obtain ⟨p, hp, rfl⟩ := rb
      cases ry
      split at h
      · rename_i vv kvs hn
        split at h
        · rename_i hk
          cases h
          exact ld_notIn (by omega) I hr hn hp ra rx hk fin
        · split at h
          · split at h
            · rename_i al
              cases h
              cases ra
              cases rx
              exact ld_notInN (by omega) I hr hn hp al fin
            · cases h
          · cases h
      · exact inS_notIn (y := .ref p) (b := .ref n) hu I rx rfl hr ra ⟨p, hp, rfl⟩ h (fin s I)
    · split at h
      · cases h
        cases rb
        cases ra
        exact op_notin_str pins s σ H _ _ v u Q I rx ry ⟨_, _, rfl, rfl, o.here hr rfl⟩
      · cases h
    · exact inS_notIn hu I rx ry hr ra rb h (fin s I)
  · exact o.elim
end

/-! ### tests, conditions -/
def tAndL (a b : Lm Bool) : Lm Bool := fun l L => (a l L).bind fun x L1 => match x with
  | true => b l L1
  | false => .ok false L1
def tOrL (a b : Lm Bool) : Lm Bool := fun l L => (a l L).bind fun x L1 => match x with
  | true => .ok true L1
  | false => b l L1
def tNotL (a : Lm Bool) : Lm Bool := fun l L => (a l L).bind fun x L1 => .ok (!x) L1
def eOfT (a : Lm Bool) : Lm LV := fun l L => (a l L).bind fun x L1 => .ok (.bl x) L1
def eIf (c : Lm Bool) (a b : Lm LV) : Lm LV := fun l L => (c l L).bind fun x L1 => match x with
  | true => a l L1
  | false => b l L1
/-- a and b, a or b as values: the first one a bool -/
def eAnd (a b : Lm LV) : Lm LV := fun l L => (a l L).bind fun x L1 => match x with
  | .bl true => b l L1
  | .bl false => .ok (.bl false) L1
  | _ => .bad
def eOr (a b : Lm LV) : Lm LV := fun l L => (a l L).bind fun x L1 => match x with
  | .bl true => .ok (.bl true) L1
  | .bl false => b l L1
  | _ => .bad
def eNot (a : Lm LV) : Lm LV := fun l L => (a l L).bind fun x L1 => match x with
  | .bl b => .ok (.bl (!b)) L1
  | _ => .bad
section
variable {X : Cx} {G : Gm} {W : WX} {pos : Pos} {a b c : Expr} {rest : List Expr} {ta tb tc : Lm Bool} {ma mb : Lm LV}
theorem jw_and1 (ha : JT X G W a ta) : JW X G W (.BoolOp .And [a] pos) ta := pw_and1 ha
theorem jw_or1 (ha : JT X G W a ta) : JW X G W (.BoolOp .Or [a] pos) ta := pw_or1 ha
theorem jw_and (ha : JT X G W a ta) (hb : JW X G W (.BoolOp .And (b :: rest) pos) tb) : JW X G W (.BoolOp .And (a :: b :: rest) pos) (tAndL ta tb) := PW.imp (pw_and ha hb) fun σ H Q ⟨μ, l, L, s, h, o⟩ =>
  (TX.bind (R := RB) s h o).mono fun v H1 ⟨μ1, L1, x, le, s1, h1, r1, o1⟩ => by
    cases r1
    cases v with
    | true => exact iteT ⟨_, _, _, s1, h1, o1⟩
    | false => exact iteF (Out.here o1 h1 rfl)
theorem jw_or (ha : JT X G W a ta) (hb : JW X G W (.BoolOp .Or (b :: rest) pos) tb) : JW X G W (.BoolOp .Or (a :: b :: rest) pos) (tOrL ta tb) := PW.imp (pw_or ha hb) fun σ H Q ⟨μ, l, L, s, h, o⟩ =>
  (TX.bind (R := RB) s h o).mono fun v H1 ⟨μ1, L1, x, le, s1, h1, r1, o1⟩ => by
    cases r1
    cases v with
    | true => exact iteT (Out.here o1 h1 rfl)
    | false => exact iteF ⟨_, _, _, s1, h1, o1⟩
theorem jt_w (h : JW X G W a ta) : JT X G W a ta := h.pt
theorem jt_not (ha : JT X G W a ta) : JT X G W (.UnaryOp .Not a pos) (tNotL ta) := PT.imp (pt_not ha) fun σ H Q ⟨μ, l, L, s, h, o⟩ =>
  (TX.bind (R := RB) s h o).mono fun v H1 ⟨μ1, L1, x, le, s1, h1, r1, o1⟩ => by
    cases r1
    exact Out.here o1 h1 rfl
theorem je_if (hc : JT X G W c tc) (ha : JE X G W a ma) (hb : JE X G W b mb) : JE X G W (.IfExp c a b pos) (eIf tc ma mb) := PE.imp (pe_ifExp hc ha hb) fun σ H Q ⟨μ, l, L, s, h, o⟩ =>
  (TX.bind (R := RB) s h o).mono fun v H1 ⟨μ1, L1, x, le, s1, h1, r1, o1⟩ => by
    cases r1
    cases v with
    | true => exact iteT ⟨_, _, _, s1, h1, o1⟩
    | false => exact iteF ⟨_, _, _, s1, h1, o1⟩
theorem je_one {op} (ha : JE X G W a ma) : JE X G W (.BoolOp op [a] pos) ma := pe_one ha
theorem je_and (ha : JE X G W a ma) (hb : JE X G W (.BoolOp .And (b :: rest) pos) mb) : JE X G W (.BoolOp .And (a :: b :: rest) pos) (eAnd ma mb) := PE.imp (pe_and ha hb) fun σ H Q ⟨μ, l, L, s, h, o⟩ =>
  (TX.bind (R := RV X.K) s h o).mono fun v H1 ⟨μ1, L1, x, le, s1, h1, r1, o1⟩ => by
    cases x with
    | bl x => cases x with
      | true => exact ⟨true, r1, iteT ⟨_, _, _, s1, h1, o1⟩⟩
      | false => exact ⟨false, r1, iteF (Out.here o1 h1 rfl)⟩
    | _ => exact o1.elim
theorem je_or (ha : JE X G W a ma) (hb : JE X G W (.BoolOp .Or (b :: rest) pos) mb) : JE X G W (.BoolOp .Or (a :: b :: rest) pos) (eOr ma mb) := PE.imp (pe_or ha hb) fun σ H Q ⟨μ, l, L, s, h, o⟩ =>
  (TX.bind (R := RV X.K) s h o).mono fun v H1 ⟨μ1, L1, x, le, s1, h1, r1, o1⟩ => by
    cases x with
    | bl x => cases x with
      | true => exact ⟨true, r1, iteT (Out.here o1 h1 rfl)⟩
      | false => exact ⟨false, r1, iteF ⟨_, _, _, s1, h1, o1⟩⟩
    | _ => exact o1.elim
theorem je_not (ha : JE X G W a ma) : JE X G W (.UnaryOp .Not a pos) (eNot ma) := PE.imp (pe_not ha) fun σ H Q ⟨μ, l, L, s, h, o⟩ =>
  (TX.bind (R := RV X.K) s h o).mono fun v H1 ⟨μ1, L1, x, le, s1, h1, r1, o1⟩ => by
    cases x with
    | bl x => exact ⟨x, r1, Out.here o1 h1 rfl⟩
    | _ => exact o1.elim

/-! ### displays -/
def eTup (m : Lm (List LV)) : Lm LV := fun l L => (m l L).bind fun xs L1 => if Nat.ble xs.length sizeLine = true then .ok (.tup xs) L1 else .bad
def eLst (m : Lm (List LV)) : Lm LV := fun l L => (m l L).bind fun xs L1 => if Nat.ble xs.length sizeLine = true then .ok (.ref L1.length) (L1 ++ [.lst xs]) else .bad
theorem je_tup {es : List Expr} {m : Lm (List LV)} {x1} (h : JA X G W es m) : JE X G W (.Tuple es x1 pos) (eTup m) := PE.imp (pe_tup h) fun σ H Q ⟨μ, l, L, s, h, o⟩ =>
  (TX.bind (R := RVs X.K) s h o).mono fun v H1 ⟨μ1, L1, xs, le, s1, h1, r1, o1⟩ => by
    dsimp only at o1
    split at o1
    · rename_i hz
      exact ⟨by rw [VRels.length r1]; exact Nat.le_of_ble_eq_true hz, fun p hp => OutO.tup (G := G) (w := X.w) (L := L1) (show OutO (RV X.K) G X.w X.K Q μ1 L1 H1 (some (.tup xs, L1)) from o1) h1 r1 p hp⟩
    · exact o1.elim
theorem je_lst {es : List Expr} {m : Lm (List LV)} (h : JA X G W es m) : JE X G W (.List es pos) (eLst m) := PE.imp (pe_lst h) fun σ H Q ⟨μ, l, L, s, h, o⟩ =>
  (TX.bind (R := RVs X.K) s h o).mono fun v H1 ⟨μ1, L1, xs, le, s1, h1, r1, o1⟩ => by
    dsimp only at o1
    split at o1
    · rename_i hz
      exact ⟨by rw [VRels.length r1]; exact Nat.le_of_ble_eq_true hz, fun p hp => OutO.lst (G := G) (w := X.w) (show OutO (RV X.K) G X.w X.K Q μ1 L1 H1 (some (.ref L1.length, L1 ++ [.lst xs])) from o1) h1 r1 p hp⟩
    · exact o1.elim
def eNeg (m : Lm LV) : Lm LV := fun l L => (m l L).bind fun x L1 => match x with
  | .int i => .ok (.int (-i)) L1
  | _ => .bad
theorem je_neg (ha : JE X G W a ma) : JE X G W (.UnaryOp .USub a pos) (eNeg ma) := PE.imp (pe_un un_neg ha) fun σ H Q ⟨μ, l, L, s, h, o⟩ =>
  (TX.bind (R := RV X.K) s h o).mono fun v H1 ⟨μ1, L1, x, le, s1, h1, r1, o1⟩ => by
    cases x with
    | int i => exact ⟨i, r1, Out.here o1 h1 rfl⟩
    | _ => exact o1.elim
end

/-! ### subscripts -/
def ixL {α : Type} (xs : List α) (i : Int) : Option α := atI xs i
def subI : Op2
  | .tup xs, .int i, L => match ixL xs i with
    | some y => some (y, L)
    | none => none
  | .str z, .int i, L => if z.length ≤ sizeLine then (match ixL z.cps.toList i with
    | some c => some (.str ⟨#[c]⟩, L)
    | none => none) else none
  | .ref n, k, L => match L[n]? with
    | some (.dct _ kvs) => if dkey kvs k = true then (match dget kvs k with
      | some y => some (y, L)
      | none => none) else none
    | _ => (match lstAt L n, k with
      | some xs, .int i => (match ixL xs i with
        | some y => some (y, L)
        | none => none)
      | _, _ => none)
  | _, _, _ => none
theorem VRels.ix {K : PySem.W.Frag} {μ : List Addr} {H : Hp} {xs : List LV} {vs : List V} (r : VRels K μ H xs vs) {i : Int} {y : LV} (e : ixL xs i = some y) : ∃ v, atI vs i = some v ∧ VRel K μ H y v := by
  unfold ixL atI at e
  unfold atI
  rw [VRels.length r]
  cases q : ixN xs.length i with
  | none => rw [q] at e; cases e
  | some j =>
    rw [q] at e
    obtain ⟨v, hv, rv⟩ := r.get (show xs[j]? = some y from e)
    exact ⟨v, hv, rv⟩
section
variable {X : Cx} {G : Gm} {W : WX} {pos : Pos} {a b : Expr} {ma mb : Lm LV}
theorem ji_sub (hu : X.A.units + 64 < cLine) : IxR X fun x y H Q => ∃ μ L a b, HRel G X.w X.K μ L H ∧ VRel X.K μ H a x ∧ VRel X.K μ H b y ∧ OutO (RV X.K) G X.w X.K Q μ L H (subI a b L) := by
  intro value slice pins s σ H x y v u Q I rx ry h hs
  obtain ⟨μ, L, a, b, hr, ra, rb, o⟩ := h
  unfold subI at o
  split at o
  · split at o
    · rename_i e
      obtain ⟨p, vs, rfl, sq, rp⟩ := ra
      obtain ⟨v', hv, rv⟩ := rp.ix e
      exact ix_tup value slice pins s σ H _ y v u Q I rx ry ⟨p, vs, _, v', rfl, rb, sq, hv, o.here hr rv⟩ hs
    · exact o.elim
  · split at o
    · rename_i hz
      split at o
      · rename_i e
        exact ix_str value slice pins s σ H x y v u Q I rx ry ⟨_, _, _, ra, rb, hz, e, o.here hr rfl⟩ hs
      · exact o.elim
    · exact o.elim
  · obtain ⟨p, hp, rfl⟩ := ra
    split at o
    · rename_i hn
      split at o
      · rename_i hk
        split at o
        · rename_i hy
          cases rx
          obtain ⟨ob, ho, _, d⟩ := dct_of hr hn hp
          refine PyProof.Rows.tail_any (ops := [.ref p, u]) ⟨ob, dX_at I.hok ho, d.ex.1⟩ PySem.F.slot_dict_getitem.lookup (ld_get hu I hr hn hp rb ry hk hy fun s' v' w' I' rv rw' => ⟨v', H, I', rw', o.here hr rv⟩) hs
        · exact o.elim
      · exact o.elim
    · split at o
      · rename_i hl
        split at o
        · rename_i e
          obtain ⟨p', vs, hp', sq, rp⟩ := hr.lst hl
          rw [hp] at hp'
          cases hp'
          obtain ⟨v', hv, rv⟩ := rp.ix e
          exact ix_list value slice pins s σ H _ y v u Q I rx ry ⟨p, vs, _, v', rfl, rb, sq, hv, o.here hr rv⟩ hs
        · exact o.elim
      · exact o.elim
  · exact o.elim
theorem je_sub (hu : X.A.units + 64 < cLine) (ha : JE X G W a ma) (hb : JE X G W b mb) (hs : PlainIx b) : JE X G W (.Subscript a b pos) (eOp subI ma mb) := PE.imp (pe_ix (ji_sub (G := G) hu) ha hb hs) fun _ _ _ => bin_of
end
end LT

set_option Elab.async false
set_option linter.all false
set_option autoImplicit false
set_option maxRecDepth 100000
set_option maxHeartbeats 4000000
namespace LT
open PySem PySem.Spec L2

/-! ### targets -/
abbrev Lg := LV → LS → LH → Option (LS × LH)
abbrev Lgs := List LV → LS → LH → Option (LS × LH)
def OutG (G : Gm) (w : World) (K : PySem.W.Frag) (Q : St → Hp → Prop) (μ : List Addr) (L : LH) (H : Hp) : Option (LS × LH) → Prop
  | some (l, L') => ∀ μ' σ' H', Le μ L H μ' L' H' → HRel G w K μ' L' H' → SRel K μ' H' l σ' → Q σ' H'
  | none => False
def JG (X : Cx) (G : Gm) (tg : Expr) (g : Lg) : Prop := PG X tg fun v σ H Q => ∃ μ l L x, SRel X.K μ H l σ ∧ HRel G X.w X.K μ L H ∧ VRel X.K μ H x v ∧ OutG G X.w X.K Q μ L H (g x l L)
def JGs (X : Cx) (G : Gm) (tg : List Expr) (g : Lgs) : Prop := PGs X tg fun v σ H Q => ∃ μ l L x, SRel X.K μ H l σ ∧ HRel G X.w X.K μ L H ∧ VRels X.K μ H x v ∧ OutG G X.w X.K Q μ L H (g x l L)
theorem PG.imp {X : Cx} {e : Expr} {t t' : TG} (h : PG X e t) (k : ∀ v σ H Q, t' v σ H Q → t v σ H Q) : PG X e t' := ⟨fun pins s σ H v u Q I r q => h.run pins s σ H v u Q I r (k v σ H Q q)⟩
theorem PGs.imp {X : Cx} {e : List Expr} {t t' : TGs} (h : PGs X e t) (k : ∀ v σ H Q, t' v σ H Q → t v σ H Q) : PGs X e t' := ⟨fun pins s σ H v u Q I r q => h.run pins s σ H v u Q I r (k v σ H Q q)⟩
section
variable {G : Gm} {w : World} {K : PySem.W.Frag} {σ : St} {μ : List Addr} {l : LS} {L : LH} {H : Hp}
theorem SRel.set {i : Nat} {x : LV} {v : V} (s : SRel K μ H l σ) (r : VRel K μ H x v) : SRel K μ H (l.set i (some x)) (σ.set i (some v)) := by
  refine ⟨by simp [s.1], fun j y e => ?_⟩
  by_cases hj : i = j
  · subst hj
    have hi : i < l.length := by
      have := (List.getElem?_eq_some_iff.mp e).1
      simpa using this
    rw [List.getElem?_set_self hi] at e
    cases e
    exact ⟨v, by rw [List.getElem?_set_self (by rw [← s.1]; exact hi)], r⟩
  · rw [List.getElem?_set_ne hj] at e
    obtain ⟨v', a, b⟩ := s.2 j y e
    exact ⟨v', by rw [List.getElem?_set_ne hj]; exact a, b⟩
theorem OutG.here {Q : St → Hp → Prop} {l' : LS} (o : OutG G w K Q μ L H (some (l', L))) (h : HRel G w K μ L H) {σ' : St} (s : SRel K μ H l' σ') : Q σ' H := o μ σ' H (Le.refl _ _ _) h s
theorem OutG.shift {Q : St → Hp → Prop} {r : Option (LS × LH)} {μ1 : List Addr} {L1 : LH} {H1 : Hp} (le : Le μ L H μ1 L1 H1) (o : OutG G w K Q μ L H r) : OutG G w K Q μ1 L1 H1 r := by
  cases r with
  | none => exact o
  | some p => exact fun μ' v H' a b c => o μ' v H' (le.trans a) b c
end
def gNm (i : Nat) : Lg := fun x l L => some (l.set i (some x), L)
def gsNil : Lgs := fun xs l L => match xs with
  | [] => some (l, L)
  | _ => none
def gsCons (g : Lg) (r : Lgs) : Lgs := fun xs l L => match xs with
  | x :: ys => (match g x l L with
    | some (l1, L1) => r ys l1 L1
    | none => none)
  | [] => none
def gTp (n : Nat) (g : Lgs) : Lg := fun x l L => match x with
  | .tup xs => if xs.length = n then g xs l L else none
  | _ => none
section
variable {X : Cx} {G : Gm} {W : WX} {pos : Pos}
theorem jg_name {i : Nat} {x : Str} (h : PG X (.Name x pos) (gName i)) : JG X G (.Name x pos) (gNm i) := PG.imp h fun v σ H Q ⟨μ, l, L, x, s, h, r, o⟩ => o.here h (s.set r)
theorem jgs_nil : JGs X G [] gsNil := PGs.imp pgs_nil fun v σ H Q ⟨μ, l, L, x, s, h, r, o⟩ => by
  cases x with
  | nil => cases r; exact ⟨rfl, o.here h s⟩
  | cons y ys => exact o.elim
theorem jgs_cons {t : Expr} {ts : List Expr} {g : Lg} {r : Lgs} (h1 : JG X G t g) (h2 : JGs X G ts r) (hst : List.map (fun x => x.snd) (assignEach (t :: ts) X.env) = assign t X.env :: List.map (fun x => x.snd) (assignEach ts X.env) := by rfl) : JGs X G (t :: ts) (gsCons g r) := by
  refine PGs.imp (pgs_cons h1 h2 hst) fun v σ H Q ⟨μ, l, L, x, s, h, rx, o⟩ => ?_
  cases x with
  | nil => exact o.elim
  | cons y ys =>
    obtain ⟨v1, vr, rfl, r1, r2⟩ := rx
    refine ⟨v1, vr, rfl, μ, l, L, y, s, h, r1, ?_⟩
    unfold gsCons at o
    dsimp only at o
    cases e : g y l L with
    | none => rw [e] at o; exact o
    | some p =>
      rw [e] at o
      exact fun μ' σ' H' a b c => ⟨μ', p.1, p.2, ys, c, b, VRels.le a ys r2, OutG.shift a o⟩
theorem jg_tup {es : List Expr} {k : Nat} {g : Lgs} {n : Nat} (hc : X.calm = true) (h : JGs X G es g) (hn : (assignEach es X.env).length = n := by rfl) (hst : (assignEach es X.env).findIdx? (·.1) = none := by rfl) : JG X G (.Tuple es k pos) (gTp n g) :=
  PG.imp (pg_tup hc h hn hst) fun v σ H Q ⟨μ, l, L, x, s, h, rx, o⟩ => by
    cases x with
    | tup xs =>
      obtain ⟨a, vs, rfl, sq, r⟩ := rx
      unfold gTp at o
      dsimp only at o
      split at o
      · rename_i e
        exact ⟨a, vs, rfl, sq, by rw [r.length]; exact e, μ, l, L, xs, s, h, r, o⟩
      · exact o.elim
    | _ => exact o.elim

/-! ### statements -/
def sNil : Ls := fun l L => .nx l L
def sSeq (m k : Ls) : Ls := fun l L => (m l L).seq k
theorem jb_nil : JB X G W [] sNil := PSs.imp pss_nil fun D σ H ⟨μ, l, L, s, h, o⟩ => o μ σ H (Le.refl _ _ _) h s
theorem jb_cons {st : Stmt} {r : List Stmt} {m k : Ls} (h1 : JS X G W st m) (h2 : JB X G W r k) : JB X G W (st :: r) (sSeq m k) := PSs.imp (pss_cons h1 h2) fun D σ H ⟨μ, l, L, s, h, o⟩ => by
  have t := TSx.seq (k := k) s h o
  obtain ⟨μ1, l1, L1, s1, h1, o1⟩ := t
  refine ⟨μ1, l1, L1, s1, h1, ?_⟩
  cases e : m l1 L1 with
  | nx l2 L2 =>
    rw [e] at o1
    intro μ3 σ3 H3 a b c
    obtain ⟨μ4, l4, L4, le4, s4, h4, o4⟩ := o1 μ3 σ3 H3 a b c
    exact ⟨μ4, l4, L4, s4, h4, o4⟩
  | rt x L2 => rw [e] at o1; exact o1
  | bk l2 L2 => rw [e] at o1; exact o1
  | ct l2 L2 => rw [e] at o1; exact o1
  | ex x l2 L2 => rw [e] at o1; exact o1
  | bad => rw [e] at o1; exact o1
theorem jb_one {st : Stmt} {m : Ls} (h1 : JS X G W st m) : JB X G W [st] m := pss_one h1
/-- what cannot come -/
def sBad : Ls := fun _ _ => .bad
theorem js_bad {st : Stmt} : JS X G W st sBad := PS.imp ps_never fun D σ H ⟨μ, l, L, s, h, o⟩ => o
def sPass : Ls := fun l L => .nx l L
theorem js_pass : JS X G W (.Pass pos) sPass := PS.imp ps_pass fun D σ H ⟨μ, l, L, s, h, o⟩ => o μ σ H (Le.refl _ _ _) h s
def sBrk : Ls := fun l L => .bk l L
theorem js_break : JS X G W (.Break pos) sBrk := PS.imp ps_break fun D σ H ⟨μ, l, L, s, h, o⟩ => o μ σ H (Le.refl _ _ _) h s
def sCnt : Ls := fun l L => .ct l L
theorem js_cont : JS X G W (.Continue pos) sCnt := PS.imp ps_continue fun D σ H ⟨μ, l, L, s, h, o⟩ => o μ σ H (Le.refl _ _ _) h s
def sExp (m : Lm LV) : Ls := fun l L => (m l L).thn l fun _ L1 => .nx l L1
theorem js_expr {e : Expr} {m : Lm LV} (h : JE X G W e m) (hs : swapsWith e none pos.line X.env = pure false := by rfl) : JS X G W (.Expr e pos) (sExp m) := PS.imp (ps_expr h hs) fun D σ H ⟨μ, l, L, s, h, o⟩ =>
  (TX.thn (R := RV X.K) s h o).mono fun v H1 ⟨μ1, L1, x, le, s1, h1, r1, o1⟩ => o1 μ1 σ H1 (Le.refl _ _ _) h1 s1
def sRet (m : Lm LV) : Ls := fun l L => (m l L).thn l fun x L1 => .rt x L1
theorem js_ret {e : Expr} {m : Lm LV} (h : JE X G W e m) : JS X G W (.Return (some e) pos) (sRet m) := PS.imp (ps_ret h) fun D σ H ⟨μ, l, L, s, h, o⟩ =>
  (TX.thn (R := RV X.K) s h o).mono fun v H1 ⟨μ1, L1, x, le, s1, h1, r1, o1⟩ => o1 μ1 v H1 (Le.refl _ _ _) h1 r1
def sRetN : Ls := fun _ L => .rt .non L
theorem js_retN : JS X G W (.Return none pos) sRetN := PS.imp ps_retN fun D σ H ⟨μ, l, L, s, h, o⟩ => o μ .non H (Le.refl _ _ _) h rfl
def sIf (c : Lm Bool) (a b : Ls) : Ls := fun l L => (c l L).thn l fun x L1 => match x with
  | true => a l L1
  | false => b l L1
theorem js_if {c : Expr} {a b : List Stmt} {tc : Lm Bool} {ma mb : Ls} (hc : JT X G W c tc) (ha : JB X G W a ma) (hb : JB X G W b mb) : JS X G W (.If c a b pos) (sIf tc ma mb) := PS.imp (ps_if hc ha hb) fun D σ H ⟨μ, l, L, s, h, o⟩ =>
  (TX.thn (R := RB) s h o).mono fun v H1 ⟨μ1, L1, x, le, s1, h1, r1, o1⟩ => by
    cases r1
    cases v with
    | true => exact iteT ⟨_, _, _, s1, h1, o1⟩
    | false => exact iteF ⟨_, _, _, s1, h1, o1⟩
/-- target = e -/
def sAsg (g : Lg) (m : Lm LV) : Ls := fun l L => (m l L).thn l fun x L1 => match g x l L1 with
  | some (l2, L2) => .nx l2 L2
  | none => .bad
theorem js_asg {tg e : Expr} {g : Lg} {m : Lm LV} (he : JE X G W e m) (hg : JG X G tg g) (hs : swapsWithSole [tg] e pos.line X.env = pure false := by rfl) (hw : swappedStores [tg] e X.env = pure none := by rfl) (h1 : (assignEach [tg] X.env).map (·.2) = [assign tg X.env] := by rfl) : JS X G W (.Assign [tg] e pos) (sAsg g m) :=
  PS.imp (ps_asg he hg hs hw h1) fun D σ H ⟨μ, l, L, s, h, o⟩ => (TX.thn (R := RV X.K) s h o).mono fun v H1 ⟨μ1, L1, x, le, s1, h1, r1, o1⟩ => by
    refine ⟨μ1, l, L1, x, s1, h1, r1, ?_⟩
    dsimp only at o1
    cases e : g x l L1 with
    | none => rw [e] at o1; exact o1
    | some p => rw [e] at o1; exact o1
theorem js_set {i : Nat} {x : Str} {e : Expr} {m : Lm LV} {pos' : Pos} (hN : X.N.Nodup) (hi : X.N[i]? = some x) (hx : Loc X.env.scope x) (he : JE X G W e m) (hs : swapsWith e (some (.Name x pos')) pos.line X.env = pure false := by rfl) (hf : X.fn x = true ∨ X.env.scope.names.lookup x = some .local := by first | exact .inl rfl | exact .inr rfl | assumption) :
    JS X G W (.Assign [.Name x pos'] e pos) (sAsg (gNm i) m) := PS.imp (ps_set (i := i) hN hi hx he hs hf) fun D σ H ⟨μ, l, L, s, h, o⟩ => (TX.thn (R := RV X.K) s h o).mono fun v H1 ⟨μ1, L1, x, le, s1, h1, r1, o1⟩ =>
  o1 μ1 _ H1 (Le.refl _ _ _) h1 (s1.set r1)
/-- a, b = e1, e2 -/
def sPar (i j : Nat) (m : Lm (List LV)) : Ls := fun l L => (m l L).thn l fun xs L1 => match xs with
  | [x, y] => .nx ((l.set i (some x)).set j (some y)) L1
  | _ => .bad
theorem js_par {i j : Nat} {st : Stmt} {m : Lm (List LV)} (h : PS X st (tPar i j (TX (RVs X.K) G X.w X.K W m))) : JS X G W st (sPar i j m) := PS.imp h fun D σ H ⟨μ, l, L, s, h, o⟩ => (TX.thn (R := RVs X.K) s h o).mono fun v H1 ⟨μ1, L1, xs, le, s1, h1, r1, o1⟩ => by
  dsimp only at o1
  split at o1
  · obtain ⟨v1, q, rfl, a1, v2, q2, rfl, a2, rfl⟩ := r1
    exact ⟨v1, v2, rfl, o1 μ1 _ H1 (Le.refl _ _ _) h1 ((s1.set a1).set a2)⟩
  · exact o1.elim
def sPar3 (i j k : Nat) (m : Lm (List LV)) : Ls := fun l L => (m l L).thn l fun xs L1 => match xs with
  | [x, y, z] => .nx (((l.set i (some x)).set j (some y)).set k (some z)) L1
  | _ => .bad
theorem js_par3 {i j k : Nat} {st : Stmt} {m : Lm (List LV)} (h : PS X st (tPar3 i j k (TX (RVs X.K) G X.w X.K W m))) : JS X G W st (sPar3 i j k m) := PS.imp h fun D σ H ⟨μ, l, L, s, h, o⟩ => (TX.thn (R := RVs X.K) s h o).mono fun v H1 ⟨μ1, L1, xs, le, s1, h1, r1, o1⟩ => by
  dsimp only at o1
  split at o1
  · obtain ⟨v1, q, rfl, a1, v2, q2, rfl, a2, v3, q3, rfl, a3, rfl⟩ := r1
    exact ⟨v1, v2, v3, rfl, o1 μ1 _ H1 (Le.refl _ _ _) h1 (((s1.set a1).set a2).set a3)⟩
  · exact o1.elim
/-- x += e -/
def sAug (i : Nat) (m : Lm LV) : Ls := fun l L => match l[i]? with
  | some (some (.int a)) => (m l L).thn l fun x L1 => match x with
    | .int b => .nx (l.set i (some (.int (a + b)))) L1
    | _ => .bad
  | _ => .bad
theorem js_aug {i : Nat} {x : Str} {e : Expr} {m : Lm LV} {pos' : Pos} (hN : X.N.Nodup) (hi : X.N[i]? = some x) (hx : Loc X.env.scope x) (he : JE X G W e m) (hf : X.fn x = true ∨ X.env.scope.names.lookup x = some .local := by first | exact .inl rfl | exact .inr rfl | assumption) :
    JS X G W (.AugAssign (.Name x pos') .Add e pos) (sAug i m) := PS.imp (ps_aug (i := i) hN hi hx he ip_add hf) fun D σ H ⟨μ, l, L, s, h, o⟩ => by
  unfold sAug at o
  split at o
  · rename_i a ha
    obtain ⟨v, hv, rv⟩ := s.2 i _ ha
    refine ⟨v, hv, (TX.thn (R := RV X.K) s h o).mono fun v' H1 ⟨μ1, L1, y, le, s1, h1, r1, o1⟩ => ?_⟩
    cases y with
    | int b => exact ⟨a, b, rv, r1, o1 μ1 _ H1 (Le.refl _ _ _) h1 (s1.set rfl)⟩
    | _ => exact o1.elim
  · exact o.elim

/-! ### while -/
def wLoop (c : Lm Bool) (b : Ls) : Nat → Ls
  | 0, _, _ => .bad
  | n + 1, l, L => (c l L).thn l fun x L1 => match x with
    | false => .nx l L1
    | true => match b l L1 with
      | .nx l2 L2 => wLoop c b n l2 L2
      | .ct l2 L2 => wLoop c b n l2 L2
      | .bk l2 L2 => .nx l2 L2
      | .rt x L2 => .rt x L2
      | .ex e l2 L2 => .ex e l2 L2
      | .bad => .bad
theorem js_while {c : Expr} {body : List Stmt} {tc : Lm Bool} {mb : Ls} {n : Nat} (hp : PassesOwn (model X.prog X.w) X.A X.env X.xe) (hc : JT X G W c tc) (hb : JB X G W body mb) : JS X G W (.While c body [] pos) (wLoop tc mb n) :=
  PS.imp (ps_while hp hc hb) fun D σ H ⟨μ, l, L, s, h, o⟩ => by
    refine ⟨fun m σ H => ∃ μ l L, SRel X.K μ H l σ ∧ HRel G X.w X.K μ L H ∧ OutS G X.w X.K W D μ L H (wLoop tc mb m l L), ⟨n, μ, l, L, s, h, o⟩, ?_⟩
    rintro m σ H ⟨μ, l, L, s, h, o⟩
    cases m with
    | zero => exact o.elim
    | succ m =>
      refine (TX.thn (R := RB) s h o).mono fun v H1 ⟨μ1, L1, x, le, s1, h1, r1, o1⟩ => ?_
      cases r1
      cases v with
      | false => exact iteF (o1 μ1 σ H1 (Le.refl _ _ _) h1 s1)
      | true =>
        refine iteT ⟨fun σ' H' => ∃ μ l L, SRel X.K μ H' l σ' ∧ HRel G X.w X.K μ L H' ∧ OutS G X.w X.K W D μ L H' (wLoop tc mb m l L), fun σ' H' q => ⟨m, Nat.lt_succ_self _, q⟩, μ1, l, L1, s1, h1, ?_⟩
        dsimp only at o1
        cases e : mb l L1 with
        | nx l2 L2 => rw [e] at o1; exact fun μ' σ' H' a b c => ⟨μ', l2, L2, c, b, OutS.shift a o1⟩
        | ct l2 L2 => rw [e] at o1; exact fun μ' σ' H' a b c => ⟨μ', l2, L2, c, b, OutS.shift a o1⟩
        | bk l2 L2 => rw [e] at o1; exact o1
        | rt x L2 => rw [e] at o1; exact o1
        | ex x l2 L2 => rw [e] at o1; exact o1
        | bad => rw [e] at o1; exact o1
end
end LT

set_option Elab.async false
set_option linter.all false
set_option autoImplicit false
set_option maxRecDepth 100000
set_option maxHeartbeats 4000000
namespace LT
open PySem PySem.Spec L2

/-! ### what is walked -/
structure LI where
  turn : Nat → LH → Option (Option LV)
  fuel : Nat
def Mt (G : Gm) (w : World) (K : PySem.W.Frag) (J : It) (it : LI) (μ0 : List Addr) (L0 : LH) (H0 : Hp) : Prop :=
  ∀ i μ L H, Le μ0 L0 H0 μ L H → HRel G w K μ L H → match it.turn i L with
    | none => True
    | some none => J.stop i H
    | some (some x) => J.go i H ∧ ∀ v H', J.yld i H v H' → Le μ L H μ L H' ∧ HRel G w K μ L H' ∧ VRel K μ H' x v
def OutI (G : Gm) (w : World) (K : PySem.W.Frag) (W : WX) (σ : St) (R : It → Hp → Prop) (μ : List Addr) (L : LH) (H : Hp) : Rs LI → Prop
  | .ok it L' => ∀ μ' H' J, Le μ L H μ' L' H' → HRel G w K μ' L' H' → Mt G w K J it μ' L' H' → R J H'
  | .ex e L' => ∀ μ' H' c d, Le μ L H μ' L' H' → HRel G w K μ' L' H' → XRel G K μ' H' e c d → W c d σ H'
  | .bad => False
def TIx (G : Gm) (w : World) (K : PySem.W.Frag) (W : WX) (m : Lm LI) : TI := fun σ H R => ∃ μ l L, SRel K μ H l σ ∧ HRel G w K μ L H ∧ OutI G w K W σ R μ L H (m l L)
abbrev JI (X : Cx) (G : Gm) (W : WX) (tg e : Expr) (m : Lm LI) : Prop := PI X tg e (TIx G X.w X.K W m)
theorem PI.imp {X : Cx} {tg e : Expr} {t t' : TI} (h : PI X tg e t) (k : ∀ σ H R, t' σ H R → t σ H R) : PI X tg e t' := ⟨fun pins s σ H R I q => h.run pins s σ H R I (k σ H R q)⟩
section
variable {G : Gm} {w : World} {K : PySem.W.Frag} {W : WX} {σ : St} {μ : List Addr} {l : LS} {L : LH} {H : Hp}
theorem OutI.shift {R : It → Hp → Prop} {r : Rs LI} {μ1 : List Addr} {L1 : LH} {H1 : Hp} (le : Le μ L H μ1 L1 H1) (o : OutI G w K W σ R μ L H r) : OutI G w K W σ R μ1 L1 H1 r := by
  cases r with
  | ok x L' => exact fun μ' v H' a b c => o μ' v H' (le.trans a) b c
  | ex e L' => exact fun μ' H' c d a b x => o μ' H' c d (le.trans a) b x
  | bad => exact o
theorem OutI.here {R : It → Hp → Prop} {it : LI} {J : It} (o : OutI G w K W σ R μ L H (.ok it L)) (h : HRel G w K μ L H) (m : Mt G w K J it μ L H) : R J H := o μ H J (Le.refl _ _ _) h m
theorem TX.bindI {α β : Type} {R : Rl α β} {Q : It → Hp → Prop} {m : Lm α} {k : α → LH → Rs LI} (s : SRel K μ H l σ) (h : HRel G w K μ L H) (o : OutI G w K W σ Q μ L H ((m l L).bind k)) :
    TX R G w K W m σ H (Nx R G w K σ l μ L H fun x μ1 L1 H1 => OutI G w K W σ Q μ1 L1 H1 (k x L1)) := by
  refine ⟨μ, l, L, s, h, ?_⟩
  cases e : m l L with
  | ok x L1 =>
    rw [e] at o
    exact fun μ1 v H1 a b c => ⟨μ1, L1, x, a, s.le a, b, c, OutI.shift a o⟩
  | ex x L1 =>
    rw [e] at o
    exact o
  | bad =>
    rw [e] at o
    exact o.elim
end
/-- a loop from turn i on -/
def fLoop (it : LI) (g : Lg) (b : Ls) : Nat → Nat → Ls
  | 0, _, _, _ => .bad
  | f + 1, i, l, L => match it.turn i L with
    | none => .bad
    | some none => .nx l L
    | some (some x) => match g x l L with
      | none => .bad
      | some (l1, L1) => match b l1 L1 with
        | .nx l2 L2 => fLoop it g b f (i + 1) l2 L2
        | .ct l2 L2 => fLoop it g b f (i + 1) l2 L2
        | .bk l2 L2 => .nx l2 L2
        | .rt x L2 => .rt x L2
        | .ex e l2 L2 => .ex e l2 L2
        | .bad => .bad
def sFor (m : Lm LI) (g : Lg) (b : Ls) : Ls := fun l L => (m l L).thn l fun it L1 => fLoop it g b it.fuel 0 l L1
section
variable {X : Cx} {G : Gm} {W : WX} {pos : Pos}
theorem js_for {tg iter : Expr} {body : List Stmt} {m : Lm LI} {g : Lg} {mb : Ls} (hp : PassesOwn (model X.prog X.w) X.A X.env X.xe) (hc : X.calm = true) (hi : JI X G W tg iter m) (hg : JG X G tg g) (hb : JB X G W body mb)
    (hs : ∀ x, foldedSetIterable iter X.env x = pure x := by intro _; rfl) : JS X G W (.For tg iter body [] pos) (sFor m g mb) := PS.imp (ps_for hp hc hi hg hb hs) fun D σ H ⟨μ, l, L, s, h, o⟩ => by
  refine ⟨μ, l, L, s, h, ?_⟩
  unfold sFor at o
  cases e : m l L with
  | ex x L1 =>
    rw [e] at o
    exact fun μ' H' c d a b x => o μ' σ H' c d a b (s.le a) x
  | bad => rw [e] at o; exact o
  | ok it L0 =>
    rw [e] at o
    intro μ0 H0 J le0 h0 mt
    refine ⟨fun i m σ H => ∃ μ l L, Le μ0 L0 H0 μ L H ∧ SRel X.K μ H l σ ∧ HRel G X.w X.K μ L H ∧ OutS G X.w X.K W D μ L H (fLoop it g mb m i l L), ⟨it.fuel, μ0, l, L0, Le.refl _ _ _, s.le le0, h0, OutS.shift le0 o⟩, ?_⟩
    rintro i m σ H ⟨μ, l, L, le, s, h, o⟩
    cases m with
    | zero => exact o.elim
    | succ m =>
      unfold fLoop at o
      have mi := mt i μ L H le h
      cases et : it.turn i L with
      | none => rw [et] at o; exact o.elim
      | some t =>
        rw [et] at o mi
        cases t with
        | none => exact .inl ⟨mi, o μ σ H (Le.refl _ _ _) h s⟩
        | some x =>
          refine .inr ⟨mi.1, fun σ' H' => ∃ μ l L, Le μ0 L0 H0 μ L H' ∧ SRel X.K μ H' l σ' ∧ HRel G X.w X.K μ L H' ∧ OutS G X.w X.K W D μ L H' (fLoop it g mb m (i + 1) l L), fun σ' H' q => ⟨m, Nat.lt_succ_self _, q⟩, fun v H' y => ?_⟩
          obtain ⟨le1, h1, rv⟩ := mi.2 v H' y
          refine ⟨μ, l, L, x, s.le le1, h1, rv, ?_⟩
          dsimp only at o
          cases eg : g x l L with
          | none => rw [eg] at o; exact o
          | some p =>
            obtain ⟨l1, L1⟩ := p
            rw [eg] at o
            intro μ2 σ2 H2 le2 h2 s2
            refine ⟨μ2, l1, L1, s2, h2, ?_⟩
            have le3 : Le μ L H μ2 L1 H2 := le1.trans le2
            have o2 := OutS.shift le3 o
            dsimp only at o2
            cases eb : mb l1 L1 with
            | nx l2 L2 => rw [eb] at o2; exact fun μ' σ' H' a b c => ⟨μ', l2, L2, (le.trans le3).trans a, c, b, OutS.shift a o2⟩
            | ct l2 L2 => rw [eb] at o2; exact fun μ' σ' H' a b c => ⟨μ', l2, L2, (le.trans le3).trans a, c, b, OutS.shift a o2⟩
            | bk l2 L2 => rw [eb] at o2; exact o2
            | rt x L2 => rw [eb] at o2; exact o2
            | ex x l2 L2 => rw [eb] at o2; exact o2
            | bad => rw [eb] at o2; exact o2
end

/-! ### ranges, tuples, lists -/
def itTup (xs : List LV) : LI := ⟨fun i _ => some xs[i]?, xs.length + 1⟩
def itLst (n : Nat) (k : Nat) : LI := ⟨fun i L => match lstAt L n with
  | some xs => some xs[i]?
  | none => none, k⟩
def itRng (lo : Int) (n : Nat) : LI := ⟨fun i _ => if i < n then some (some (.int (lo + i))) else some none, n + 1⟩
section
variable {G : Gm} {w : World} {K : PySem.W.Frag} {μ0 : List Addr} {L0 : LH} {H0 : Hp}
theorem VRels.none {μ : List Addr} {H : Hp} {xs : List LV} {vs : List V} (r : VRels K μ H xs vs) {i : Nat} (e : xs[i]? = none) : vs.length ≤ i := by
  rw [r.length]
  exact List.getElem?_eq_none_iff.mp e
/-- lists and tuples read at one place hold one thing -/
theorem mt_tup {a : Addr} {xs : List LV} {vs : List V} (sq : SqT K H0 a vs) (r : VRels K μ0 H0 xs vs) : Mt G w K (Itt K a) (itTup xs) μ0 L0 H0 := fun i μ L H le h => by
  have sq' := SqT.le le sq
  have r' := VRels.le le xs r
  show match some xs[i]? with
    | Option.none => True
    | some Option.none => (Itt K a).stop i H
    | some (some x) => (Itt K a).go i H ∧ ∀ v H', (Itt K a).yld i H v H' → Le μ L H μ L H' ∧ HRel G w K μ L H' ∧ VRel K μ H' x v
  cases e : xs[i]? with
  | none => exact ⟨vs, sq', r'.none e⟩
  | some x =>
    obtain ⟨v, hv, rv⟩ := r'.get e
    refine ⟨⟨vs, v, sq', hv⟩, fun u H' y => ?_⟩
    obtain ⟨rfl, q⟩ := y
    have q' := q vs sq'
    rw [hv] at q'
    cases q'
    exact ⟨Le.refl _ _ _, h, rv⟩
theorem mt_lst {a : Addr} {n k : Nat} (ha : μ0[n]? = some a) : Mt G w K (Itl K a) (itLst n k) μ0 L0 H0 := fun i μ L H le h => by
  show match (match lstAt L n with
    | some xs => some xs[i]?
    | Option.none => Option.none) with
    | Option.none => True
    | some Option.none => (Itl K a).stop i H
    | some (some x) => (Itl K a).go i H ∧ ∀ v H', (Itl K a).yld i H v H' → Le μ L H μ L H' ∧ HRel G w K μ L H' ∧ VRel K μ H' x v
  cases el : lstAt L n with
  | none => exact True.intro
  | some xs =>
    obtain ⟨a', vs, ha', sq, r⟩ := h.lst el
    rw [le.get ha] at ha'
    cases ha'
    dsimp only
    cases e : xs[i]? with
    | none => exact ⟨vs, sq, r.none e⟩
    | some x =>
      obtain ⟨v, hv, rv⟩ := r.get e
      refine ⟨⟨vs, v, sq, hv⟩, fun u H' y => ?_⟩
      obtain ⟨rfl, q⟩ := y
      have q' := q vs sq
      rw [hv] at q'
      cases q'
      exact ⟨Le.refl _ _ _, h, rv⟩
theorem mt_rng {lo : Int} {n : Nat} : Mt G w K (Itr lo n) (itRng lo n) μ0 L0 H0 := fun i μ L H le h => by
  show match (if i < n then some (some (LV.int (lo + i))) else some Option.none) with
    | Option.none => True
    | some Option.none => (Itr lo n).stop i H
    | some (some x) => (Itr lo n).go i H ∧ ∀ v H', (Itr lo n).yld i H v H' → Le μ L H μ L H' ∧ HRel G w K μ L H' ∧ VRel K μ H' x v
  by_cases hi : i < n
  · rw [if_pos hi]
    refine ⟨hi, fun u H' y => ?_⟩
    obtain ⟨rfl, rfl⟩ := y
    exact ⟨Le.refl _ _ _, h, rfl⟩
  · rw [if_neg hi]
    exact Nat.le_of_not_lt hi
end
def fit62 (i : Int) : Bool := decide (-(2 ^ 62) ≤ i) && decide (i < 2 ^ 62)
theorem fit62_ok {i : Int} (h : fit62 i = true) : -(2 ^ 62) ≤ i ∧ i < 2 ^ 62 := by
  unfold fit62 at h
  rw [Bool.and_eq_true_iff] at h
  exact ⟨of_decide_eq_true h.1, of_decide_eq_true h.2⟩
def iRg1 (m : Lm (List LV)) : Lm LI := fun l L => (m l L).bind fun xs L1 => match xs with
  | [.int j] => if fit62 j = true then .ok (itRng 0 j.toNat) L1 else .bad
  | _ => .bad
def iRg2 (m : Lm (List LV)) : Lm LI := fun l L => (m l L).bind fun xs L1 => match xs with
  | [.int i, .int j] => if (fit62 i && fit62 j) = true then .ok (itRng i (j - i).toNat) L1 else .bad
  | _ => .bad
section
variable {X : Cx} {G : Gm} {W : WX} {p pos : Pos} {tg : Expr}
theorem ji_range1 {a : Expr} {m : Lm (List LV)} (hg : Gl X "range") (hm : X.mg "range" = none) (ha : JA X G W [a] m) (hs : starEach [a] X.env = [(false, eval a X.env)] := by rfl) : JI X G W tg (.Call (.Name "range" p) [a] [] pos) (iRg1 m) :=
  PI.imp (pi_range1 hg hm ha hs) fun σ H R ⟨μ, l, L, s, h, o⟩ => (TX.bindI (R := RVs X.K) s h o).mono fun v H1 ⟨μ1, L1, xs, le, s1, h1, r1, o1⟩ => by
    dsimp only at o1
    split at o1
    · split at o1
      · rename_i hf
        obtain ⟨v1, q, rfl, a1, rfl⟩ := r1
        cases a1
        exact ⟨_, rfl, (fit62_ok hf).1, (fit62_ok hf).2, o1.here h1 mt_rng⟩
      · exact o1.elim
    · exact o1.elim
theorem ji_range2 {a b : Expr} {m : Lm (List LV)} (hg : Gl X "range") (hm : X.mg "range" = none) (ha : JA X G W [a, b] m) (hs : starEach [a, b] X.env = [(false, eval a X.env), (false, eval b X.env)] := by rfl) (hs2 : starEach [b] X.env = [(false, eval b X.env)] := by rfl) : JI X G W tg (.Call (.Name "range" p) [a, b] [] pos) (iRg2 m) :=
  PI.imp (pi_range2 hg hm ha hs hs2) fun σ H R ⟨μ, l, L, s, h, o⟩ => (TX.bindI (R := RVs X.K) s h o).mono fun v H1 ⟨μ1, L1, xs, le, s1, h1, r1, o1⟩ => by
    dsimp only at o1
    split at o1
    · split at o1
      · rename_i hf
        rw [Bool.and_eq_true_iff] at hf
        obtain ⟨v1, q, rfl, a1, v2, q2, rfl, a2, rfl⟩ := r1
        cases a1
        cases a2
        exact ⟨_, _, rfl, ⟨(fit62_ok hf.1).1, (fit62_ok hf.1).2, (fit62_ok hf.2).1, (fit62_ok hf.2).2⟩, o1.here h1 mt_rng⟩
      · exact o1.elim
    · exact o1.elim
/-- over a tuple that is written or made at the spot -/
def iTp (m : Lm LV) : Lm LI := fun l L => (m l L).bind fun x L1 => match x with
  | .tup xs => .ok (itTup xs) L1
  | _ => .bad
theorem ji_tup {e : Expr} {m : Lm LV} (he : JE X G W e m) : JI X G W tg e (iTp m) := PI.imp (pi_tup he) fun σ H R ⟨μ, l, L, s, h, o⟩ => (TX.bindI (R := RV X.K) s h o).mono fun v H1 ⟨μ1, L1, x, le, s1, h1, r1, o1⟩ => by
  cases x with
  | tup xs =>
    obtain ⟨a, vs, rfl, sq, r⟩ := r1
    exact ⟨a, rfl, ⟨vs, sq⟩, o1.here h1 (mt_tup sq r)⟩
  | _ => exact o1.elim
def iLs (m : Lm LV) : Lm LI := fun l L => (m l L).bind fun x L1 => match x with
  | .ref n => (match lstAt L1 n with
    | some xs => .ok (itLst n (xs.length + 1)) L1
    | none => .bad)
  | _ => .bad
theorem ji_list {e : Expr} {m : Lm LV} (he : JE X G W e m) : JI X G W tg e (iLs m) := PI.imp (pi_list he) fun σ H R ⟨μ, l, L, s, h, o⟩ => (TX.bindI (R := RV X.K) s h o).mono fun v H1 ⟨μ1, L1, x, le, s1, h1, r1, o1⟩ => by
  cases x with
  | ref n =>
    obtain ⟨a, ha, rfl⟩ := r1
    dsimp only at o1
    split at o1
    · rename_i xs hl
      obtain ⟨a', vs, ha', sq, r⟩ := h1.lst hl
      rw [ha] at ha'
      cases ha'
      exact ⟨a, rfl, ⟨vs, sq⟩, o1.here h1 (mt_lst ha)⟩
    · exact o1.elim
  | _ => exact o1.elim

/-! ### zip(a, b) of two tuples, of two lists -/
def itZipT (xs ys : List LV) : LI := ⟨fun i _ => match xs[i]?, ys[i]? with
  | some x, some y => some (some (.tup [x, y]))
  | _, _ => some none, xs.length + 1⟩
def itZipL (n m k : Nat) : LI := ⟨fun i L => match lstAt L n, lstAt L m with
  | some xs, some ys => (match xs[i]?, ys[i]? with
    | some x, some y => some (some (.tup [x, y]))
    | _, _ => some none)
  | _, _ => none, k⟩
def iZp (m : Lm (List LV)) : Lm LI := fun l L => (m l L).bind fun xs L1 => match xs with
  | [.tup xs, .tup ys] => .ok (itZipT xs ys) L1
  | [.ref n, .ref k] => (match lstAt L1 n, lstAt L1 k with
    | some xs, some _ => .ok (itZipL n k (xs.length + 1)) L1
    | _, _ => .bad)
  | _ => .bad
theorem mt_zipT {G : Gm} {w : World} {K : PySem.W.Frag} {μ0 : List Addr} {L0 : LH} {H0 : Hp} {a b : Addr} {xs ys : List LV} {vs us : List V} (sa : SqT K H0 a vs) (ra : VRels K μ0 H0 xs vs) (sb : SqT K H0 b us) (rb : VRels K μ0 H0 ys us) : Mt G w K (RZ.ItzT K a b) (itZipT xs ys) μ0 L0 H0 := fun i μ L H le h => by
  have sa' := SqT.le le sa
  have ra' := VRels.le le xs ra
  have sb' := SqT.le le sb
  have rb' := VRels.le le ys rb
  have tn : (itZipT xs ys).turn i L = match xs[i]?, ys[i]? with
    | some x, some y => some (some (.tup [x, y]))
    | _, _ => some none := rfl
  rw [tn]
  cases ex : xs[i]? with
  | none => exact ⟨vs, us, sa', sb', .inl (ra'.none ex)⟩
  | some x =>
    cases ey : ys[i]? with
    | none => exact ⟨vs, us, sa', sb', .inr (rb'.none ey)⟩
    | some y =>
      obtain ⟨v, hv, rv⟩ := ra'.get ex
      obtain ⟨u, hu, ru⟩ := rb'.get ey
      refine ⟨⟨vs, us, v, u, sa', sb', hv, hu⟩, fun z H' q => ?_⟩
      obtain ⟨T, v', u', rfl, hT, rfl, q1, q2⟩ := q
      have e1 := q1 vs sa'
      have e2 := q2 us sb'
      rw [hv] at e1
      rw [hu] at e2
      cases e1
      cases e2
      obtain ⟨le2, h2⟩ := h.tup hT (.tup [v, u])
      exact ⟨le2, h2, T, [v, u], rfl, SqT.of upd_same, VRels.le le2 [x, y] ⟨v, [u], rfl, rv, u, [], rfl, ru, rfl⟩⟩
theorem mt_zipL {G : Gm} {w : World} {K : PySem.W.Frag} {μ0 : List Addr} {L0 : LH} {H0 : Hp} {a b : Addr} {n m k : Nat} (ha : μ0[n]? = some a) (hb : μ0[m]? = some b) : Mt G w K (Itz K a b) (itZipL n m k) μ0 L0 H0 := fun i μ L H le h => by
  have tn : (itZipL n m k).turn i L = match lstAt L n, lstAt L m with
    | some xs, some ys => (match xs[i]?, ys[i]? with
      | some x, some y => some (some (.tup [x, y]))
      | _, _ => some none)
    | _, _ => none := rfl
  rw [tn]
  cases el : lstAt L n with
  | none => exact True.intro
  | some xs =>
    cases em : lstAt L m with
    | none => exact True.intro
    | some ys =>
      obtain ⟨a', vs, ha', sa', ra'⟩ := h.lst el
      rw [le.get ha] at ha'
      cases ha'
      obtain ⟨b', us, hb', sb', rb'⟩ := h.lst em
      rw [le.get hb] at hb'
      cases hb'
      dsimp only
      cases ex : xs[i]? with
      | none => exact ⟨vs, us, sa', sb', .inl (ra'.none ex)⟩
      | some x =>
        cases ey : ys[i]? with
        | none => exact ⟨vs, us, sa', sb', .inr (rb'.none ey)⟩
        | some y =>
          obtain ⟨v, hv, rv⟩ := ra'.get ex
          obtain ⟨u, hu, ru⟩ := rb'.get ey
          refine ⟨⟨vs, us, v, u, sa', sb', hv, hu⟩, fun z H' q => ?_⟩
          obtain ⟨T, v', u', rfl, hT, rfl, q1, q2⟩ := q
          have e1 := q1 vs sa'
          have e2 := q2 us sb'
          rw [hv] at e1
          rw [hu] at e2
          cases e1
          cases e2
          obtain ⟨le2, h2⟩ := h.tup hT (.tup [v, u])
          exact ⟨le2, h2, T, [v, u], rfl, SqT.of upd_same, VRels.le le2 [x, y] ⟨v, [u], rfl, rv, u, [], rfl, ru, rfl⟩⟩
theorem ji_zip {e e2 : Expr} {m : Lm (List LV)} {elts : List Expr} {kk : Nat} {tpos : Pos} (hg : Gl X "zip") (hm : X.mg "zip" = none) (ha : JA X G W [e, e2] m)
    (hs : starEach [e, e2] X.env = (false, eval e X.env) :: starEach [e2] X.env := by rfl) (hpl : (backTo pos (starEach [e2] X.env)).any (·.1) = false := by rfl) : JI X G W (.Tuple elts kk tpos) (.Call (.Name "zip" p) [e, e2] [] pos) (iZp m) :=
  PI.imp (RZ.pi_zipA hg hm ha hs hpl) fun σ H R ⟨μ, l, L, s, h, o⟩ => (TX.bindI (R := RVs X.K) s h o).mono fun v H1 ⟨μ1, L1, xs, le, s1, h1, r1, o1⟩ => by
    dsimp only at o1
    split at o1
    · obtain ⟨v1, q, rfl, ⟨a, vs, rfl, sa, ra⟩, v2, q2, rfl, ⟨b, us, rfl, sb, rb⟩, rfl⟩ := r1
      exact ⟨a, b, vs, us, rfl, .inr ⟨sa, sb, o1.here h1 (mt_zipT sa ra sb rb)⟩⟩
    · split at o1
      · rename_i xs ys el em
        obtain ⟨v1, q, rfl, ⟨a, ha, rfl⟩, v2, q2, rfl, ⟨b, hb, rfl⟩, rfl⟩ := r1
        obtain ⟨a', vs, ha', sa', ra'⟩ := h1.lst el
        rw [ha] at ha'
        cases ha'
        obtain ⟨b', us, hb', sb', rb'⟩ := h1.lst em
        rw [hb] at hb'
        cases hb'
        exact ⟨a, b, vs, us, rfl, .inl ⟨sa', sb', o1.here h1 (mt_zipL ha hb)⟩⟩
      · exact o1.elim
    · exact o1.elim
end
end LT

set_option Elab.async false
set_option linter.all false
set_option autoImplicit false
set_option maxRecDepth 100000
set_option maxHeartbeats 4000000
namespace LT
open PySem PySem.Spec L2

/-! ### walks over a dict that stands as it is -/
def ItK (d : Addr) (o : Obj) (es : Array DictEntry) : It :=
  ⟨fun i H => H d = some (dX d o) ∧ ∃ (hi : i < es.size) (x : V), RelV x es[i].key, fun i H x H' => H' = H ∧ ∃ hi : i < es.size, RelV x es[i].key, fun i H => H d = some (dX d o) ∧ es.size ≤ i⟩
def ItW (d : Addr) (o : Obj) (es : Array DictEntry) : It :=
  ⟨fun i H => H d = some (dX d o) ∧ ∃ (hi : i < es.size) (x : V), RelV x es[i].val, fun i H x H' => H' = H ∧ ∃ hi : i < es.size, RelV x es[i].val, fun i H => H d = some (dX d o) ∧ es.size ≤ i⟩
def ItP (d : Addr) (o : Obj) (es : Array DictEntry) : It :=
  ⟨fun i H => H d = some (dX d o) ∧ ∃ (hi : i < es.size) (k v : V), RelV k es[i].key ∧ RelV v es[i].val, fun i H x H' => ∃ (T : Addr) (k v : V) (hi : i < es.size), x = .ref T ∧ H T = none ∧ H' = upd H T (.tup [k, v]) ∧ RelV k es[i].key ∧ RelV v es[i].val, fun i H => H d = some (dX d o) ∧ es.size ≤ i⟩
section
variable {P : Program} {w : World} {K : PySem.W.Frag} {tg : Expr} {d : Addr} {o : Obj} {es : Array DictEntry} {ep : Nat}
theorem turnK (it : Addr) (hx : o.ExactDict) (hod : o.data = .dict es ep) : Turn P w K tg (ItK d o es) [it] it (fun i h => h.IsKeyIter it d i es.size ep) where
  mem := by simp
  obj := fun i h st b hb => by
    have e : b = it := by simpa using hb
    subst e
    obtain ⟨oi, e, c, dd⟩ := st
    exact ⟨oi, e, fun v z => by rw [dd] at z; cases z⟩
  keep := fun i h h' st k => st.at fun oi e => k it (by simp) oi e
  item := by
    intro X hP hw hK hc i pins s σ H E I hf st hg
    subst hP hw hK
    obtain ⟨hd, hi, x, rx⟩ := hg
    obtain ⟨f0, f1, f2, f3, f4, f5⟩ := hf it (by simp)
    refine wpAny_pyNext_keys_item_raw st ⟨o, dX_at I.hok hd, hx, hod⟩ hi fun h' st' sb => ?_
    have I1 : Inv X pins σ H { s with heap := h' } := I.turned (t' := s.toks) (fun b ob hb e => (sb.2 b hb).trans e) f0 f1 f3 f4 f5
    obtain ⟨oi, e, c, dd⟩ := id st'
    exact ⟨_, rfl, go_of (s := { s with heap := h' }) e c dd (by decide) ⟨x, H, I1, rx, ⟨rfl, hi, rx⟩, st', fun b hb => (hf b hb).1⟩⟩
  done := by
    intro X hP hw hK hc i pins s σ H E I hf st hg
    subst hP hw hK
    obtain ⟨hd, hi⟩ := hg
    obtain ⟨f0, f1, f2, f3, f4, f5⟩ := hf it (by simp)
    exact wpAny_pyNext_keys_end_raw (I.ok.hd hc) st ⟨o, dX_at I.hok hd, hx, hod⟩ hi fun h' eb => ⟨rfl, I.turned (t' := s.toks) (fun b ob hb e => eb b ob hb e) f0 f1 f3 f4 f5⟩
  self := fun A i s Q E st h => wpAny_pyIter_keyiter st h
theorem turnW (it : Addr) (hx : o.ExactDict) (hod : o.data = .dict es ep) : Turn P w K tg (ItW d o es) [it] it (fun i h => h.IsValIter it d i es.size ep) where
  mem := by simp
  obj := fun i h st b hb => by
    have e : b = it := by simpa using hb
    subst e
    obtain ⟨oi, e, c, dd⟩ := st
    exact ⟨oi, e, fun v z => by rw [dd] at z; cases z⟩
  keep := fun i h h' st k => st.at fun oi e => k it (by simp) oi e
  item := by
    intro X hP hw hK hc i pins s σ H E I hf st hg
    subst hP hw hK
    obtain ⟨hd, hi, x, rx⟩ := hg
    obtain ⟨f0, f1, f2, f3, f4, f5⟩ := hf it (by simp)
    refine wpAny_pyNext_values_item_raw st ⟨o, dX_at I.hok hd, hx, hod⟩ hi fun h' st' sb => ?_
    have I1 : Inv X pins σ H { s with heap := h' } := I.turned (t' := s.toks) (fun b ob hb e => (sb.2 b hb).trans e) f0 f1 f3 f4 f5
    obtain ⟨oi, e, c, dd⟩ := id st'
    exact ⟨_, rfl, go_of (s := { s with heap := h' }) e c dd (by decide) ⟨x, H, I1, rx, ⟨rfl, hi, rx⟩, st', fun b hb => (hf b hb).1⟩⟩
  done := by
    intro X hP hw hK hc i pins s σ H E I hf st hg
    subst hP hw hK
    obtain ⟨hd, hi⟩ := hg
    obtain ⟨f0, f1, f2, f3, f4, f5⟩ := hf it (by simp)
    exact wpAny_pyNext_values_end_raw (I.ok.hd hc) st ⟨o, dX_at I.hok hd, hx, hod⟩ hi fun h' eb => ⟨rfl, I.turned (t' := s.toks) (fun b ob hb e => eb b ob hb e) f0 f1 f3 f4 f5⟩
  self := fun A i s Q E st h => wpAny_pyIter_valiter st h
theorem turnP {elts : List Expr} {kk : Nat} {tpos : Pos} (it : Addr) (hx : o.ExactDict) (hod : o.data = .dict es ep) :
    Turn P w K (.Tuple elts kk tpos) (ItP d o es) [it] it (fun i h => ∃ ok ov, IsItemIter h it d i es.size ep ok ov) where
  mem := by simp
  obj := fun i h st b hb => by
    have e : b = it := by simpa using hb
    subst e
    obtain ⟨ok, ov, e⟩ := st
    exact ⟨_, e, fun v z => nomatch z⟩
  keep := fun i h h' st k => let ⟨ok, ov, e⟩ := st; ⟨ok, ov, k it (by simp) _ e⟩
  item := by
    intro X hP hw hK hc i pins s σ H E I hf st hg
    subst hP hw hK
    obtain ⟨hd, hi, k, v, rk, rv⟩ := hg
    obtain ⟨ok, ov, he⟩ := st
    have hlt : it < s.heap.objs.size := Heap.lt_size he
    refine wpAny_pyNext_items_item_raw he ⟨o, dX_at I.hok hd, hx, hod⟩ hi fun h' ho hT hz hk => ?_
    refine ⟨_, rfl, wpAny_letOwnedTupleGo_items (s := { s with heap := h' }) ho fun h'' he' sb => ?_⟩
    have hT2 : h''.get? s.heap.objs.size = some { cls := .type "tuple", data := .seq #[es[i].key, es[i].val] } := (sb.2 _ (Nat.ne_of_gt hlt)).trans hT
    have new : ObjOk X.prog X.w (upd H s.heap.objs.size (.tup [k, v])) h'' s.heap.objs.size (.tup [k, v]) :=
      ⟨by show 2 ≤ sizeLine; decide, [es[i].key, es[i].val], .cons rk (.cons rv .nil), ⟨_, hT2, rfl, _, rfl⟩⟩
    have I1 : Inv X pins σ (upd H s.heap.objs.size (.tup [k, v])) { s with heap := h'' } :=
      I.turnedNew (t' := s.toks) (ch := [it]) (fun b ob hb e => (sb.2 b (by simpa using hb)).trans (hk b ob (by simpa using hb) e)) hf (Nat.le_refl _) new
    refine ⟨.ref s.heap.objs.size, _, I1, rfl, ⟨_, k, v, hi, rfl, I.hok.fresh (Nat.le_refl _), rfl, rk, rv⟩, ⟨_, _, he'⟩, fun b hb => ?_⟩
    have e : b = it := by simpa using hb
    rw [e, upd_ne (Nat.ne_of_lt hlt)]
    exact (hf it (by simp)).1
  done := by
    intro X hP hw hK hc i pins s σ H E I hf st hg
    subst hP hw hK
    obtain ⟨hd, hi⟩ := hg
    obtain ⟨f0, f1, f2, f3, f4, f5⟩ := hf it (by simp)
    obtain ⟨ok, ov, he⟩ := st
    exact wpAny_pyNext_items_end_raw (I.ok.hd hc) he ⟨o, dX_at I.hok hd, hx, hod⟩ hi fun h' eb => ⟨rfl, I.turned (t' := s.toks) (fun b ob hb e => eb b ob hb e) f0 f1 f3 f4 f5⟩
  self := fun A i s Q E st h => let ⟨_, _, e⟩ := st; PySem.W.kcp_self e h
end
def iK (td : TE) : TI := fun σ H R => td σ H fun x H1 => ∃ d o es ep, x = .ref d ∧ H1 d = some (dX d o) ∧ (d == sysModules) = false ∧ o.ExactDict ∧ o.data = .dict es ep ∧ R (ItK d o es) H1
def iW (td : TE) : TI := fun σ H R => td σ H fun x H1 => ∃ d o es ep, x = .ref d ∧ H1 d = some (dX d o) ∧ (d == sysModules) = false ∧ o.ExactDict ∧ o.data = .dict es ep ∧ R (ItW d o es) H1
def iP (td : TE) : TI := fun σ H R => td σ H fun x H1 => ∃ d o es ep, x = .ref d ∧ H1 d = some (dX d o) ∧ (d == sysModules) = false ∧ o.ExactDict ∧ o.data = .dict es ep ∧ R (ItP d o es) H1
section
variable {X : Cx} {tg e : Expr} {td : TE} {apos cpos : Pos}
theorem piK (he : PE X e td) : PI X tg e (iK td) := by
  refine ⟨fun pins s σ H R I h => ?_⟩
  refine thn (he.run pins s σ H _ I h) fun u s1 ⟨x, H1, I1, rx, d, o, es, ep, ex, hd, hs, hx, hdt, q⟩ => ?_
  subst ex
  obtain rfl : u = Value.ref d := rx
  exact wpAny_pyIter_dict_raw hs ⟨o, dX_at I1.hok hd, hx, hdt⟩ (pi_one (tk := s1.toks) I1 _ (turnK _ hx hdt) ⟨_, Heap.get?_push_size _ rfl, rfl, rfl⟩ q)
theorem piW (he : PE X e td) (hbase : attributeBase e "values" X.env (eval e X.env) = eval e X.env := by rfl) (hline : (apos.endLine == cpos.line) = true := by rfl) : PI X tg (.Call (.Attribute e "values" apos) [] [] cpos) (iW td) := by
  refine ⟨fun pins s σ H R I h => ?_⟩
  refine wpAny_Call_method (T := "dict") (id := "dict.values") hbase rfl hline F.plainAttrs_dict F.slot_dict_values F.type_dict_values (thn (he.run pins s σ H _ I h) fun u s1 ⟨x, H1, I1, rx, d, o, es, ep, ex, hd, hs, hx, hdt, q⟩ => ?_)
  subst ex
  obtain rfl : u = Value.ref d := rx
  have ho := dX_at I1.hok hd
  have hT : s1.TypeIs (.ref d) "dict" := ⟨o, ho, hx.1⟩
  refine ⟨hT, fun b e => by cases e; exact ⟨o, ho, hx.2.1⟩, ?_⟩
  have I2 : Inv X pins σ H1 { s1 with heap := s1.heap.push { cls := .type "dict_values", data := .fields #[.ref d] } } := I1.kept (t' := s1.toks) fun b ob q => Heap.get?_push_of_some _ q
  have fin : wpAny (model X.prog X.w) X.A (pyIter (.ref s1.heap.objs.size)) (PIE X pins σ tg R) X.xe { s1 with heap := s1.heap.push { cls := .type "dict_values", data := .fields #[.ref d] } } :=
    wpAny_pyIter_values_raw (d := d) ⟨_, Heap.get?_push_size _ rfl, rfl, rfl⟩ ⟨o, Heap.get?_push_of_some _ ho, hx, hdt⟩ (pi_one (tk := s1.toks) I2 _ (turnW _ hx hdt) ⟨_, Heap.get?_push_size _ rfl, rfl, rfl⟩ q)
  show wpAny _ _ (callWith cpos (.builtin "dict.values") [.ref d] [] []) _ X.xe s1
  exact method_meetsIn F.slot_dict_values F.entry_dict_values rfl (PySem.evalArgs_none ⟨rfl, hT, F.args_dict_values_1 _, _, meets_dict_values_raw d hs, ⟨es, ep, ⟨o, ho, hx, hdt⟩⟩, fin⟩)
theorem piP {elts : List Expr} {kk : Nat} {tpos : Pos} (he : PE X e td) (hbase : attributeBase e "items" X.env (eval e X.env) = eval e X.env := by rfl) (hline : (apos.endLine == cpos.line) = true := by rfl) :
    PI X (.Tuple elts kk tpos) (.Call (.Attribute e "items" apos) [] [] cpos) (iP td) := by
  refine ⟨fun pins s σ H R I h => ?_⟩
  refine wpAny_Call_method (T := "dict") (id := "dict.items") hbase rfl hline F.plainAttrs_dict F.slot_dict_items F.type_dict_items (thn (he.run pins s σ H _ I h) fun u s1 ⟨x, H1, I1, rx, d, o, es, ep, ex, hd, hs, hx, hdt, q⟩ => ?_)
  subst ex
  obtain rfl : u = Value.ref d := rx
  have ho := dX_at I1.hok hd
  have hT : s1.TypeIs (.ref d) "dict" := ⟨o, ho, hx.1⟩
  refine ⟨hT, fun b e => by cases e; exact ⟨o, ho, hx.2.1⟩, ?_⟩
  have I2 : Inv X pins σ H1 { s1 with heap := s1.heap.push { cls := .type "dict_items", data := .fields #[.ref d] } } := I1.kept (t' := s1.toks) fun b ob q => Heap.get?_push_of_some _ q
  have fin : wpAny (model X.prog X.w) X.A (pyIter (.ref s1.heap.objs.size)) (PIE X pins σ (.Tuple elts kk tpos) R) X.xe { s1 with heap := s1.heap.push { cls := .type "dict_items", data := .fields #[.ref d] } } :=
    wpAny_pyIter_items_raw (d := d) ⟨_, Heap.get?_push_size _ rfl, rfl, rfl⟩ ⟨o, Heap.get?_push_of_some _ ho, hx, hdt⟩ (pi_one (tk := s1.toks) I2 _ (turnP _ hx hdt) ⟨.none, .none, Heap.get?_push_size _ rfl⟩ q)
  show wpAny _ _ (callWith cpos (.builtin "dict.items") [.ref d] [] []) _ X.xe s1
  exact method_meetsIn F.slot_dict_items F.entry_dict_items rfl (PySem.evalArgs_none ⟨rfl, hT, F.args_dict_items_1 _, _, meets_dict_items_raw d hs, ⟨es, ep, ⟨o, ho, hx, hdt⟩⟩, fin⟩)
end

/-! ### as lite walks -/
def dctAt (L : LH) (n : Nat) : Option (Nat × List (LV × LV)) := match L[n]? with
  | some (.dct v kvs) => some (v, kvs)
  | _ => none
def verIs (L : LH) (n v : Nat) : Bool := match L[n]? with
  | some (.dct v' _) => Nat.beq v' v
  | _ => false
def itKeys (n v : Nat) (kvs : List (LV × LV)) : LI := ⟨fun i L => if verIs L n v = true then some ((kvs[i]?).map (·.1)) else none, kvs.length + 1⟩
def itVals (n v : Nat) (kvs : List (LV × LV)) : LI := ⟨fun i L => if verIs L n v = true then some ((kvs[i]?).map (·.2)) else none, kvs.length + 1⟩
def itPairs (n v : Nat) (kvs : List (LV × LV)) : LI := ⟨fun i L => if verIs L n v = true then some ((kvs[i]?).map fun p => .tup [p.1, p.2]) else none, kvs.length + 1⟩
section
variable {G : Gm} {w : World} {K : PySem.W.Frag} {μ0 : List Addr} {L0 : LH} {H0 : Hp} {n v : Nat} {kvs : List (LV × LV)} {a : Addr} {o : Obj} {es : Array DictEntry} {ep : Nat}
theorem dX_inj {a : Addr} {o o' : Obj} (hf : o.isFreed = false) (e : dX a o = dX a o') : o = o' := by
  unfold dX at e
  injection e with z
  have hs : (⟨Array.replicate a default, default⟩ : Heap).objs.size = a := by simp
  have g : (Heap.push ⟨Array.replicate a default, default⟩ o).get? a = some o := by
    have q := Heap.get?_push_size (⟨Array.replicate a default, default⟩ : Heap) hf
    rw [hs] at q
    exact q
  have g2 : (Heap.push ⟨Array.replicate a default, default⟩ o).get? a = some o' := by
    have z2 := congrFun z (Heap.push ⟨Array.replicate a default, default⟩ o)
    exact z2.mp g
  rw [g] at g2
  exact Option.some.inj g2
theorem ver_same (ha : μ0[n]? = some a) (hn : L0[n]? = some (.dct v kvs)) {μ : List Addr} {L : LH} {H : Hp} (le : Le μ0 L0 H0 μ L H) (e : verIs L n v = true) : L[n]? = some (.dct v kvs) ∧ H a = H0 a := by
  obtain ⟨v', kvs', e1, _, q⟩ := le.dcts n a v kvs ha hn
  unfold verIs at e
  rw [e1] at e
  have ev : v = v' := (Nat.eq_of_beq_eq_true e).symm
  obtain ⟨q1, q2⟩ := q ev
  subst q1 ev
  exact ⟨e1, q2⟩
theorem ents {μ : List Addr} {L : LH} {H : Hp} (h : HRel G w K μ L H) (ha : μ[n]? = some a) (hn : L[n]? = some (.dct v kvs)) (ho : H a = some (dX a o)) (hod : o.data = .dict es ep) : kvs.length = es.size ∧ ∀ i p, kvs[i]? = some p → ∃ hi : i < es.size, ERel w K μ H p es[i] := by
  obtain ⟨o', ho', _, d⟩ := h.obj n a _ ha hn
  obtain ⟨_, ⟨es', ep', e1, _, pr⟩, _, _⟩ := d
  rw [ho] at ho'
  have e2 : o = o' := dX_inj (Obj.isFreed_of_dict hod) (Option.some.inj ho')
  subst e2
  rw [hod] at e1
  cases e1
  refine ⟨by have := Paired.length pr; rw [Array.length_toList] at this; exact this, fun i p hp => ?_⟩
  obtain ⟨e, he, r⟩ := L2.paired_get pr hp
  rw [Array.getElem?_toList] at he
  obtain ⟨hi, he⟩ := Array.getElem?_eq_some_iff.mp he
  exact ⟨hi, by rw [he]; exact r⟩
theorem mt_keys (ha : μ0[n]? = some a) (hn : L0[n]? = some (.dct v kvs)) (ho : H0 a = some (dX a o)) (hod : o.data = .dict es ep) : Mt G w K (ItK a o es) (itKeys n v kvs) μ0 L0 H0 := fun i μ L H le h => by
  have tn : (itKeys n v kvs).turn i L = if verIs L n v = true then some ((kvs[i]?).map (·.1)) else none := rfl
  rw [tn]
  by_cases hv : verIs L n v = true
  · rw [if_pos hv]
    obtain ⟨hn', hH⟩ := ver_same ha hn le hv
    have ho' : H a = some (dX a o) := hH.trans ho
    obtain ⟨hz, en⟩ := ents h (le.get ha) hn' ho' hod
    cases e : kvs[i]? with
    | none => exact ⟨ho', by rw [← hz]; exact List.getElem?_eq_none_iff.mp e⟩
    | some p =>
      obtain ⟨hi, ⟨x, r1, r2⟩, _⟩ := en i p e
      refine ⟨⟨ho', hi, x, r2⟩, fun u H' y => ?_⟩
      obtain ⟨rfl, hi', r3⟩ := y
      rw [r3.inj r2]
      exact ⟨Le.refl _ _ _, h, r1⟩
  · rw [if_neg hv]
    exact True.intro
theorem mt_vals (ha : μ0[n]? = some a) (hn : L0[n]? = some (.dct v kvs)) (ho : H0 a = some (dX a o)) (hod : o.data = .dict es ep) : Mt G w K (ItW a o es) (itVals n v kvs) μ0 L0 H0 := fun i μ L H le h => by
  have tn : (itVals n v kvs).turn i L = if verIs L n v = true then some ((kvs[i]?).map (·.2)) else none := rfl
  rw [tn]
  by_cases hv : verIs L n v = true
  · rw [if_pos hv]
    obtain ⟨hn', hH⟩ := ver_same ha hn le hv
    have ho' : H a = some (dX a o) := hH.trans ho
    obtain ⟨hz, en⟩ := ents h (le.get ha) hn' ho' hod
    cases e : kvs[i]? with
    | none => exact ⟨ho', by rw [← hz]; exact List.getElem?_eq_none_iff.mp e⟩
    | some p =>
      obtain ⟨hi, _, ⟨x, r1, r2⟩, _⟩ := en i p e
      refine ⟨⟨ho', hi, x, r2⟩, fun u H' y => ?_⟩
      obtain ⟨rfl, hi', r3⟩ := y
      rw [r3.inj r2]
      exact ⟨Le.refl _ _ _, h, r1⟩
  · rw [if_neg hv]
    exact True.intro
theorem mt_pairs (ha : μ0[n]? = some a) (hn : L0[n]? = some (.dct v kvs)) (ho : H0 a = some (dX a o)) (hod : o.data = .dict es ep) : Mt G w K (ItP a o es) (itPairs n v kvs) μ0 L0 H0 := fun i μ L H le h => by
  have tn : (itPairs n v kvs).turn i L = if verIs L n v = true then some ((kvs[i]?).map fun p => .tup [p.1, p.2]) else none := rfl
  rw [tn]
  by_cases hv : verIs L n v = true
  · rw [if_pos hv]
    obtain ⟨hn', hH⟩ := ver_same ha hn le hv
    have ho' : H a = some (dX a o) := hH.trans ho
    obtain ⟨hz, en⟩ := ents h (le.get ha) hn' ho' hod
    cases e : kvs[i]? with
    | none => exact ⟨ho', by rw [← hz]; exact List.getElem?_eq_none_iff.mp e⟩
    | some p =>
      obtain ⟨hi, ⟨k, r1, r2⟩, ⟨x, r3, r4⟩, _⟩ := en i p e
      refine ⟨⟨ho', hi, k, x, r2, r4⟩, fun u H' y => ?_⟩
      obtain ⟨T, k', x', hi', rfl, hT, rfl, q1, q2⟩ := y
      rw [q1.inj r2, q2.inj r4]
      obtain ⟨le2, h2⟩ := h.tup hT (.tup [k, x])
      exact ⟨le2, h2, T, [k, x], rfl, SqT.of upd_same, VRels.le le2 [p.1, p.2] ⟨k, [x], rfl, r1, x, [], rfl, r3, rfl⟩⟩
  · rw [if_neg hv]
    exact True.intro
end
def iDk (m : Lm LV) : Lm LI := fun l L => (m l L).bind fun x L1 => match x with
  | .ref n => (match dctAt L1 n with
    | some (v, kvs) => .ok (itKeys n v kvs) L1
    | none => .bad)
  | _ => .bad
def iDv (m : Lm LV) : Lm LI := fun l L => (m l L).bind fun x L1 => match x with
  | .ref n => (match dctAt L1 n with
    | some (v, kvs) => .ok (itVals n v kvs) L1
    | none => .bad)
  | _ => .bad
def iDp (m : Lm LV) : Lm LI := fun l L => (m l L).bind fun x L1 => match x with
  | .ref n => (match dctAt L1 n with
    | some (v, kvs) => .ok (itPairs n v kvs) L1
    | none => .bad)
  | _ => .bad
theorem dctAt_some {L : LH} {n v : Nat} {kvs : List (LV × LV)} (h : dctAt L n = some (v, kvs)) : L[n]? = some (.dct v kvs) := by
  unfold dctAt at h
  split at h
  · rename_i e
    cases h
    exact e
  · cases h
section
variable {X : Cx} {G : Gm} {W : WX} {p pos apos cpos : Pos} {tg e : Expr} {m : Lm LV}
theorem ji_keys (he : JE X G W e m) : JI X G W tg e (iDk m) := PI.imp (piK he) fun σ H R ⟨μ, l, L, s, h, o⟩ => (TX.bindI (R := RV X.K) s h o).mono fun v H1 ⟨μ1, L1, x, le, s1, h1, r1, o1⟩ => by
  cases x with
  | ref n =>
    obtain ⟨a, ha, rfl⟩ := r1
    dsimp only at o1
    split at o1
    · rename_i v kvs hn
      have hn' := dctAt_some hn
      obtain ⟨ob, ho, hm, d⟩ := h1.obj n a _ ha hn'
      obtain ⟨es, ep, e1, _, _⟩ := d.es
      exact ⟨a, ob, es, ep, rfl, ho, hm, d.ex, e1, o1.here h1 (mt_keys ha hn' ho e1)⟩
    · exact o1.elim
  | _ => exact o1.elim
theorem ji_values (he : JE X G W e m) (hbase : attributeBase e "values" X.env (eval e X.env) = eval e X.env := by rfl) (hline : (apos.endLine == cpos.line) = true := by rfl) : JI X G W tg (.Call (.Attribute e "values" apos) [] [] cpos) (iDv m) := PI.imp (piW he hbase hline) fun σ H R ⟨μ, l, L, s, h, o⟩ => (TX.bindI (R := RV X.K) s h o).mono fun v H1 ⟨μ1, L1, x, le, s1, h1, r1, o1⟩ => by
  cases x with
  | ref n =>
    obtain ⟨a, ha, rfl⟩ := r1
    dsimp only at o1
    split at o1
    · rename_i v kvs hn
      have hn' := dctAt_some hn
      obtain ⟨ob, ho, hm, d⟩ := h1.obj n a _ ha hn'
      obtain ⟨es, ep, e1, _, _⟩ := d.es
      exact ⟨a, ob, es, ep, rfl, ho, hm, d.ex, e1, o1.here h1 (mt_vals ha hn' ho e1)⟩
    · exact o1.elim
  | _ => exact o1.elim
theorem ji_items {elts : List Expr} {kk : Nat} {tpos : Pos} (he : JE X G W e m) (hbase : attributeBase e "items" X.env (eval e X.env) = eval e X.env := by rfl) (hline : (apos.endLine == cpos.line) = true := by rfl) : JI X G W (.Tuple elts kk tpos) (.Call (.Attribute e "items" apos) [] [] cpos) (iDp m) := PI.imp (piP he hbase hline) fun σ H R ⟨μ, l, L, s, h, o⟩ => (TX.bindI (R := RV X.K) s h o).mono fun v H1 ⟨μ1, L1, x, le, s1, h1, r1, o1⟩ => by
  cases x with
  | ref n =>
    obtain ⟨a, ha, rfl⟩ := r1
    dsimp only at o1
    split at o1
    · rename_i v kvs hn
      have hn' := dctAt_some hn
      obtain ⟨ob, ho, hm, d⟩ := h1.obj n a _ ha hn'
      obtain ⟨es, ep, e1, _, _⟩ := d.es
      exact ⟨a, ob, es, ep, rfl, ho, hm, d.ex, e1, o1.here h1 (mt_pairs ha hn' ho e1)⟩
    · exact o1.elim
  | _ => exact o1.elim
/-- over a tuple, a list, the keys of a dict: whatever comes -/
def iVal (m : Lm LV) : Lm LI := fun l L => match m l L with
  | .ok (.tup xs) L1 => .ok (itTup xs) L1
  | .ok (.ref n) L1 => (match dctAt L1 n with
    | some (v, kvs) => .ok (itKeys n v kvs) L1
    | none => match lstAt L1 n with
      | some xs => .ok (itLst n (xs.length + 1)) L1
      | none => .bad)
  | .ok _ _ => .bad
  | .ex e L1 => .ex e L1
  | .bad => .bad
theorem ji_val (he : JE X G W e m) : JI X G W tg e (iVal m) := by
  refine ⟨fun pins s σ H R I ⟨μ, l, L, sr, h, o⟩ => ?_⟩
  have go : ∀ (k : Lm LI), JI X G W tg e k → OutI G X.w X.K W σ R μ L H (k l L) → wpAny (model X.prog X.w) X.A (eval e X.env) (fun v s1 => wpAny (model X.prog X.w) X.A (pyIter v) (PIE X pins σ tg R) X.xe s1) X.xe s :=
    fun k j q => j.run pins s σ H R I ⟨μ, l, L, sr, h, q⟩
  unfold iVal at o
  cases em : m l L with
  | bad => rw [em] at o; exact o.elim
  | ex x L1 => exact go _ (ji_tup he) (by unfold iTp; rw [em] at o ⊢; exact o)
  | ok x L1 =>
    rw [em] at o
    cases x with
    | tup xs => exact go _ (ji_tup he) (by unfold iTp; rw [em]; exact o)
    | ref n =>
      dsimp only at o
      cases ed : dctAt L1 n with
      | some q =>
        rw [ed] at o
        exact go _ (ji_keys he) (by unfold iDk; rw [em]; show OutI _ _ _ _ _ _ _ _ _ (match dctAt L1 n with | some (v, kvs) => Rs.ok (itKeys n v kvs) L1 | none => Rs.bad); rw [ed]; exact o)
      | none =>
        rw [ed] at o
        dsimp only at o
        exact go _ (ji_list he) (by unfold iLs; rw [em]; exact o)
    | _ => exact o.elim
end
end LT

set_option Elab.async false
set_option linter.all false
set_option autoImplicit false
set_option maxRecDepth 100000
set_option maxHeartbeats 4000000
/-! ### enumerate of a tuple -/
namespace PySem
open Sem (wp)
open AutoSeq1 (wpAny_loadPart')
theorem lt_enum_newT (t : Addr) (items : Array Value) (n : Nat) (dct : Option Addr) (sl : Array (Option Value)) :
    Meets (Builtin.«enumerate.__new__» ⟨[.type "enumerate", .ref t], []⟩) (fun _ R s => s.heap.get? t = some ⟨.type "tuple", dct, .seq items n, sl⟩ ∧
      R (.ok (.ret (.ref (s.heap.push { cls := .type "tuple_iterator", data := .fields #[.ref t, .int 0 0] }).objs.size)))
        { s with heap := (s.heap.push { cls := .type "tuple_iterator", data := .fields #[.ref t, .int 0 0] }).push { cls := .type "enumerate", data := .fields #[.none, .bool false, .ref s.heap.objs.size, rawInt 0, .none, .none] } }) :=
  .of_wp fun prog w A R s ⟨ht, hR⟩ => by
    obtain ⟨hp, gs, dr, tk, os⟩ := s
    have hsub := sub_enumerate
    have hT : Heap.IsTuple (Shared.heap ⟨hp, gs, dr, tk, os⟩) t items := ⟨_, ht, rfl, n, rfl⟩
    wp_walk using wpAny_loadPart' ht
    refine wpAny_stack_any fun st => wpAny_pure ?_
    split
    · rename_i c _ _ _ _ _
      cases (c == Value.type "enumerate") <;> (wp_walk using wpAny_loadPart' ht, wpAny_pyIter_tuple hT; exact ⟨_, rfl, hR⟩)
    · wp_walk using wpAny_loadPart' ht, wpAny_pyIter_tuple hT
      exact ⟨_, rfl, hR⟩
section
variable {prog : Program} {w : World} {A : Around} {E : Value → Shared → Prop} {s : Shared}
theorem lt_enum_tuple {t : Addr} {items : Array Value} {Q : Value → Shared → Prop} (hT : s.heap.IsTuple t items)
    (h : ∀ h', IsEnum h' (s.heap.objs.size + 1) s.heap.objs.size 0 .none → h'.IsTupleIter s.heap.objs.size t 0 → (∀ b o, s.heap.get? b = some o → h'.get? b = some o) → Q (.ref (s.heap.objs.size + 1)) { s with heap := h' }) :
    wpAny (model prog w) A (call (.type "enumerate") [.ref t]) Q E s := by
  obtain ⟨⟨c, dct, dt, sl⟩, ht, e1, n, e2⟩ := hT
  cases e1
  cases e2
  refine callType_new F.called_enumerate (by decide) (F.typeCall_enumerate_1 _) (F.newCall_enumerate_1 _) (fun obj => F.args_object_init_2 obj _) F.entry_enumerate_new (lt_enum_newT t items n dct sl) ⟨ht, ?_⟩
  have z1 := Heap.size_push s.heap ({ cls := .type "tuple_iterator", data := .fields #[.ref t, .int 0 0] } : Obj)
  have ge := Heap.get?_push_size (s.heap.push { cls := .type "tuple_iterator", data := .fields #[.ref t, .int 0 0] }) (o := { cls := .type "enumerate", data := .fields #[.none, .bool false, .ref s.heap.objs.size, rawInt 0, .none, .none] }) rfl
  show _ ∧ _
  rw [z1] at ge ⊢
  exact ⟨⟨_, ge, rfl⟩, h _ ge ⟨_, Heap.get?_push_of_some _ (Heap.get?_push_size _ rfl), rfl, rfl⟩ fun b o q => Heap.get?_push_of_some _ (Heap.get?_push_of_some _ q)⟩
end
end PySem
namespace LT
open PySem PySem.Spec L2
/-- enumerate over the tuple at a -/
def ItE (K : PySem.W.Frag) (a : Addr) : It :=
  ⟨fun i H => ∃ (xs : List V) (x : V), SqT K H a xs ∧ xs[i]? = some x, fun i H v H' => ∃ T x, v = .ref T ∧ H T = none ∧ H' = upd H T (.tup [.int (i : Nat), x]) ∧ ∀ xs, SqT K H a xs → xs[i]? = some x, fun i H => ∃ xs : List V, SqT K H a xs ∧ xs.length = i⟩
theorem turnE {P : Program} {w : World} {K : PySem.W.Frag} {elts : List Expr} {kk : Nat} {tpos : Pos} (a e it : Addr) (hai : a ≠ it) :
    Turn P w K (.Tuple elts kk tpos) (ItE K a) [e, it] e (fun i h => (∃ old, IsEnum h e it ((i : Nat) : Int) old) ∧ h.IsTupleIter it a i ∧ e ≠ it ∧ e ≠ a) where
  mem := List.mem_cons_self
  obj := fun i h ⟨⟨old, he⟩, ⟨o, ho, _, hd⟩, _⟩ b hb => by
    rcases List.mem_cons.mp hb with z | z
    · exact ⟨_, z ▸ he, fun v q => by cases q⟩
    · rw [List.mem_singleton] at z
      exact ⟨o, z ▸ ho, fun v q => by rw [hd] at q; cases q⟩
  keep := fun i h h' ⟨⟨old, he⟩, hi, hne⟩ k => ⟨⟨old, k e List.mem_cons_self _ he⟩, hi.at fun o q => k it (by simp) o q, hne⟩
  item := by
    intro X e1 e2 e3 hc i pins s σ H E I hf st hg
    subst e1 e2 e3
    obtain ⟨⟨old, he⟩, hit, hne, hea⟩ := st
    obtain ⟨xs, x, hq, hx⟩ := hg
    obtain ⟨its, rv, p, hz⟩ := I.tuple hq
    obtain ⟨u, hu, ru⟩ := rv.get hx
    have l1 : e < s.heap.objs.size := Heap.lt_size he
    have l2 : it < s.heap.objs.size := let ⟨_, q, _⟩ := hit; Heap.lt_size q
    have hT : s.heap.IsTuple a its.toArray := let ⟨o, q1, q2, n, q3⟩ := p; ⟨o, q1, q2, n, q3⟩
    have hi : i < its.toArray.size := by
      have := (List.getElem?_eq_some_iff.mp hu).1
      simpa using this
    refine wpAny_pyNext_enum_itemD (Draws.tuple (A := X.A.in1) (I.ok.hd hc) it a hai its.toArray) he ⟨hit, hT⟩ hi hne (by simp [hne, hea]) fun z h' tk hz' ho hst hTT hsz hk => ?_
    have ez : z = u := by
      have q : its.toArray[i]? = some u := by simpa using hu
      rw [q] at hz'
      exact (Option.some.inj hz').symm
    subst ez
    refine ⟨_, rfl, wpAny_letOwnedTupleGo_enum (s := { s with heap := h', toks := tk + 1 }) ho fun h2 he2 sb => ?_⟩
    have T2 : h2.get? s.heap.objs.size = some { cls := .type "tuple", data := .seq #[.int i tk, z] } := (sb.2 _ (Nat.ne_of_gt l1)).trans hTT
    have nw : ObjOk X.prog X.w (upd H s.heap.objs.size (.tup [.int (i : Nat), x])) h2 s.heap.objs.size (.tup [.int (i : Nat), x]) := ⟨by show 2 ≤ sizeLine; decide, [.int i tk, z], .cons ⟨_, rfl⟩ (.cons ru .nil), ⟨_, T2, rfl, _, rfl⟩⟩
    have J : Inv X pins σ (upd H s.heap.objs.size (.tup [.int (i : Nat), x])) { s with heap := h2, toks := tk + 1 } := I.turnedNew (ch := [e, it]) (fun b ob hb q => by
      rw [List.mem_cons, List.mem_singleton, not_or] at hb
      exact (sb.2 b hb.1).trans (hk b ob hb.1 hb.2 q)) hf (Nat.le_refl _) nw
    refine ⟨.ref s.heap.objs.size, _, J, rfl, ⟨_, x, rfl, I.hok.fresh (Nat.le_refl _), rfl, fun ys hy => by rw [I.tuple_inj hy hq]; exact hx⟩, ⟨⟨z, ?_⟩, hst.1.at fun o q => (sb.2 it (Ne.symm hne)).trans q, hne, hea⟩, fun b hb => ?_⟩
    · rw [show ((i + 1 : Nat) : Int) = (i : Int) + 1 by omega]
      exact he2
    · have lb : b < s.heap.objs.size := by
        rcases List.mem_cons.mp hb with q | q
        · rw [q]; exact l1
        · rw [List.mem_singleton] at q; rw [q]; exact l2
      rw [upd_ne (Nat.ne_of_lt lb)]
      exact (hf b hb).1
  done := by
    intro X e1 e2 e3 hc i pins s σ H E I hf st hg
    subst e1 e2 e3
    obtain ⟨⟨old, he⟩, hit, hne, hea⟩ := st
    obtain ⟨xs, hq, hx⟩ := hg
    obtain ⟨its, rv, p, hz⟩ := I.tuple hq
    obtain ⟨g0, g1, g2, g3, g4, g5⟩ := hf it (List.mem_cons_of_mem _ (List.mem_singleton.mpr rfl))
    have hT : s.heap.IsTuple a its.toArray := let ⟨o, q1, q2, n, q3⟩ := p; ⟨o, q1, q2, n, q3⟩
    have ei : i = its.toArray.size := by rw [List.size_toArray, ← rv.length, hx]
    refine wpAny_pyNext_enum_endD (Draws.tuple (A := X.A.in1) (I.ok.hd hc) it a hai its.toArray) he ⟨by rw [← ei]; exact hit, hT⟩ fun h' eb => ⟨rfl, I.turned (t' := s.toks) (fun b o hb q => eb b o hb q) g0 g1 g3 g4 g5⟩
  self := fun A i s Q E ⟨⟨_, he⟩, _⟩ h => wpAny_pyIter_enum he h
def iEnT (K : PySem.W.Frag) (ta : TA) : TI := fun σ H R => ta σ H fun vs H1 => ∃ a xs, vs = [.ref a] ∧ SqT K H1 a xs ∧ R (ItE K a) H1
theorem pi_enumT {X : Cx} {e : Expr} {ta : TA} {p pos tpos : Pos} {elts : List Expr} {kk : Nat} (hg : Gl X "enumerate") (hm : X.mg "enumerate" = none) (ha : PA X [e] ta) (hs : starEach [e] X.env = [(false, eval e X.env)] := by rfl) :
    PI X (.Tuple elts kk tpos) (.Call (.Name "enumerate" p) [e] [] pos) (iEnT X.K ta) := ⟨fun pins s σ H R I h => by
  refine PyProof.Rows.Call_ (ld_blt I hg hm PyProof.Rows.boot_enumerate (PyProof.Rows.callWith_type1 (thn (ha.run pos pins s σ H _ I h) fun us s1 ⟨vs, H1, I1, r1, a, xs, ex, hq, q⟩ => ?_) hs rfl))
  subst ex
  obtain ⟨u, rfl, ru⟩ := r1.one
  cases ru
  obtain ⟨its, rv, tp, hz⟩ := I1.tuple hq
  have hT : s1.heap.IsTuple a its.toArray := let ⟨o, q1, q2, n, q3⟩ := tp; ⟨o, q1, q2, n, q3⟩
  have la : a < s1.heap.objs.size := let ⟨_, q1, _⟩ := tp; Heap.lt_size q1
  refine lt_enum_tuple hT fun h' he hit hk => wpAny_pyIter_enum he ?_
  refine ⟨s1.heap.objs.size + 1, [s1.heap.objs.size + 1, s1.heap.objs.size], _, _, H1, rfl, I1.kept (t' := s1.toks) hk, turnE a (s1.heap.objs.size + 1) s1.heap.objs.size (Nat.ne_of_lt la), ⟨⟨.none, he⟩, hit, Nat.succ_ne_self _, Nat.ne_of_gt (Nat.lt_succ_of_lt la)⟩, fun b hb => ?_, q⟩
  have lb : s1.heap.objs.size ≤ b := by
    rcases List.mem_cons.mp hb with z | z
    · rw [z]; exact Nat.le_succ _
    · rw [List.mem_singleton] at z; rw [z]; exact Nat.le_refl _
  exact I1.fpOk lb (I1.hok.fresh lb)⟩
def itEnT (xs : List LV) : LI := ⟨fun i _ => if i ≤ xs.length then (match xs[i]? with
  | some x => some (some (.tup [.int (i : Nat), x]))
  | none => some none) else none, xs.length + 1⟩
def itEnL (n k : Nat) : LI := ⟨fun i L => match lstAt L n with
  | some xs => (match xs[i]? with
    | some x => some (some (.tup [.int (i : Nat), x]))
    | none => some none)
  | none => none, k⟩
section
variable {G : Gm} {w : World} {K : PySem.W.Frag} {μ0 : List Addr} {L0 : LH} {H0 : Hp}
theorem mt_enT {a : Addr} {xs : List LV} {vs : List V} (sq : SqT K H0 a vs) (r : VRels K μ0 H0 xs vs) : Mt G w K (ItE K a) (itEnT xs) μ0 L0 H0 := fun i μ L H le h => by
  have sq' := SqT.le le sq
  have r' := VRels.le le xs r
  have tn : (itEnT xs).turn i L = if i ≤ xs.length then (match xs[i]? with
    | some x => some (some (.tup [.int (i : Nat), x]))
    | none => some none) else none := rfl
  rw [tn]
  by_cases hi : i ≤ xs.length
  · rw [if_pos hi]
    cases e : xs[i]? with
    | none =>
      have := List.getElem?_eq_none_iff.mp e
      exact ⟨vs, sq', by rw [r'.length]; omega⟩
    | some x =>
      obtain ⟨v, hv, rv⟩ := r'.get e
      refine ⟨⟨vs, v, sq', hv⟩, fun u H' y => ?_⟩
      obtain ⟨T, z, rfl, hT, rfl, q⟩ := y
      have q' := q vs sq'
      rw [hv] at q'
      cases q'
      obtain ⟨le2, h2⟩ := h.tup hT (.tup [.int (i : Nat), v])
      exact ⟨le2, h2, T, _, rfl, SqT.of upd_same, _, _, rfl, rfl, v, [], rfl, VRel.le le2 x rv, rfl⟩
  · rw [if_neg hi]
    exact True.intro
theorem mt_enL {a : Addr} {n k : Nat} (ha : μ0[n]? = some a) : Mt G w K (Ite K a) (itEnL n k) μ0 L0 H0 := fun i μ L H le h => by
  have tn : (itEnL n k).turn i L = match lstAt L n with
    | some xs => (match xs[i]? with
      | some x => some (some (.tup [.int (i : Nat), x]))
      | none => some none)
    | none => none := rfl
  rw [tn]
  cases el : lstAt L n with
  | none => exact True.intro
  | some xs =>
    obtain ⟨a', vs, ha', sq, r⟩ := h.lst el
    rw [le.get ha] at ha'
    cases ha'
    dsimp only
    cases e : xs[i]? with
    | none => exact ⟨vs, sq, r.none e⟩
    | some x =>
      obtain ⟨v, hv, rv⟩ := r.get e
      refine ⟨⟨vs, v, sq, hv⟩, fun u H' y => ?_⟩
      obtain ⟨T, z, rfl, hT, rfl, q⟩ := y
      have q' := q vs sq
      rw [hv] at q'
      cases q'
      obtain ⟨le2, h2⟩ := h.tup hT (.tup [.int (i : Nat), v])
      exact ⟨le2, h2, T, _, rfl, SqT.of upd_same, _, _, rfl, rfl, v, [], rfl, VRel.le le2 x rv, rfl⟩
end
def iEn (m : Lm (List LV)) : Lm LI := fun l L => match m l L with
  | .ok [.tup xs] L1 => .ok (itEnT xs) L1
  | .ok [.ref n] L1 => (match lstAt L1 n with
    | some xs => .ok (itEnL n (xs.length + 1)) L1
    | none => .bad)
  | .ok _ _ => .bad
  | .ex e L1 => .ex e L1
  | .bad => .bad
section
variable {X : Cx} {G : Gm} {W : WX}
def iEnA (m : Lm (List LV)) : Lm LI := fun l L => (m l L).bind fun xs L1 => match xs with
  | [.tup xs] => .ok (itEnT xs) L1
  | _ => .bad
def iEnB (m : Lm (List LV)) : Lm LI := fun l L => (m l L).bind fun xs L1 => match xs with
  | [.ref n] => (match lstAt L1 n with
    | some xs => .ok (itEnL n (xs.length + 1)) L1
    | none => .bad)
  | _ => .bad
theorem ji_enumA {e : Expr} {m : Lm (List LV)} {p pos tpos : Pos} {elts : List Expr} {kk : Nat} (hg : Gl X "enumerate") (hm : X.mg "enumerate" = none) (ha : JA X G W [e] m) (hs : starEach [e] X.env = [(false, eval e X.env)] := by rfl) :
    JI X G W (.Tuple elts kk tpos) (.Call (.Name "enumerate" p) [e] [] pos) (iEnA m) := PI.imp (pi_enumT hg hm ha hs) fun σ H R ⟨μ, l, L, s, h, o⟩ => (TX.bindI (R := RVs X.K) s h o).mono fun v H1 ⟨μ1, L1, xs, le, s1, h1, r1, o1⟩ => by
  dsimp only at o1
  split at o1
  · obtain ⟨v1, q, rfl, ⟨a, vs, rfl, sq, r⟩, rfl⟩ := r1
    exact ⟨a, vs, rfl, sq, o1.here h1 (mt_enT sq r)⟩
  · exact o1.elim
theorem ji_enumB {e : Expr} {m : Lm (List LV)} {p pos tpos : Pos} {elts : List Expr} {kk : Nat} (hg : Gl X "enumerate") (hm : X.mg "enumerate" = none) (ha : JA X G W [e] m) (hs : starEach [e] X.env = [(false, eval e X.env)] := by rfl) :
    JI X G W (.Tuple elts kk tpos) (.Call (.Name "enumerate" p) [e] [] pos) (iEnB m) := PI.imp (pi_enum hg hm ha hs) fun σ H R ⟨μ, l, L, s, h, o⟩ => (TX.bindI (R := RVs X.K) s h o).mono fun v H1 ⟨μ1, L1, xs, le, s1, h1, r1, o1⟩ => by
  dsimp only at o1
  split at o1
  · split at o1
    · rename_i el
      obtain ⟨v1, q, rfl, ⟨a, ha, rfl⟩, rfl⟩ := r1
      obtain ⟨a', vs, ha', sq, r⟩ := h1.lst el
      rw [ha] at ha'
      cases ha'
      exact ⟨a, vs, rfl, sq, o1.here h1 (mt_enL ha)⟩
    · exact o1.elim
  · exact o1.elim
theorem ji_enum {e : Expr} {m : Lm (List LV)} {p pos tpos : Pos} {elts : List Expr} {kk : Nat} (hg : Gl X "enumerate") (hm : X.mg "enumerate" = none) (ha : JA X G W [e] m) (hs : starEach [e] X.env = [(false, eval e X.env)] := by rfl) :
    JI X G W (.Tuple elts kk tpos) (.Call (.Name "enumerate" p) [e] [] pos) (iEn m) := by
  refine ⟨fun pins s σ H R I ⟨μ, l, L, sr, h, o⟩ => ?_⟩
  unfold iEn at o
  split at o
  · rename_i em
    exact (ji_enumA hg hm ha hs).run pins s σ H R I ⟨μ, l, L, sr, h, by unfold iEnA; rw [em]; exact o⟩
  · rename_i em
    exact (ji_enumB hg hm ha hs).run pins s σ H R I ⟨μ, l, L, sr, h, by unfold iEnB; rw [em]; exact o⟩
  · exact o.elim
  · rename_i em
    exact (ji_enumA hg hm ha hs).run pins s σ H R I ⟨μ, l, L, sr, h, by unfold iEnA; rw [em]; exact o⟩
  · exact o.elim
end
end LT

set_option Elab.async false
set_option linter.all false
set_option autoImplicit false
set_option maxRecDepth 100000
set_option maxHeartbeats 4000000
namespace LT
open PySem PySem.Spec L2

/-! ### targets of a block's own names -/
theorem wipe_set_in {i : Nat} {x : Option V} : ∀ {vs : List Nat} {σ : St}, i ∈ vs → wipe (σ.set i x) vs = wipe σ vs
  | [], _, h => by cases h
  | v :: vs, σ, h => by
    unfold wipe
    by_cases hi : i ∈ vs
    · rw [wipe_set_in hi]
    · have e : i = v := by
        rcases List.mem_cons.mp h with z | z
        · exact z
        · exact absurd z hi
      subst e
      have : ∀ {vs : List Nat} {σ : St}, i ∉ vs → wipe (σ.set i x) vs = (wipe σ vs).set i x := by
        intro vs
        induction vs with
        | nil => intro σ _; rfl
        | cons u us ih =>
          intro σ hn
          unfold wipe
          rw [ih fun m => hn (List.mem_cons_of_mem _ m), List.set_comm _ _ fun z => hn (by rw [z]; exact List.mem_cons_self)]
      rw [this hi, List.set_set]
def lwipe (l : LS) : List Nat → LS
  | [] => l
  | v :: vs => (lwipe l vs).set v none
theorem lwipe_length (l : LS) : ∀ vs : List Nat, (lwipe l vs).length = l.length
  | [] => rfl
  | v :: vs => by unfold lwipe; rw [List.length_set, lwipe_length l vs]
theorem lwipe_some {l : LS} {i : Nat} {x : LV} : ∀ {vs : List Nat}, (lwipe l vs)[i]? = some (some x) → l[i]? = some (some x) ∧ i ∉ vs
  | [], h => ⟨h, by simp⟩
  | v :: vs, h => by
    unfold lwipe at h
    by_cases e : v = i
    · subst e
      rw [List.getElem?_set] at h
      simp at h
    · rw [List.getElem?_set_ne e] at h
      obtain ⟨a, b⟩ := lwipe_some h
      exact ⟨a, fun m => by
        rcases List.mem_cons.mp m with z | z
        · exact e z.symm
        · exact b z⟩
theorem SRel.wipe {K : PySem.W.Frag} {μ : List Addr} {H : Hp} {l : LS} {σ : St} (s : SRel K μ H l σ) (vs : List Nat) : SRel K μ H (lwipe l vs) (wipe σ vs) := by
  refine ⟨by rw [lwipe_length, wipe_length]; exact s.1, fun i x e => ?_⟩
  obtain ⟨a, b⟩ := lwipe_some e
  obtain ⟨v, c, d⟩ := s.2 i x a
  exact ⟨v, by rw [wipe_out b]; exact c, d⟩
def OutGc (G : Gm) (w : World) (K : PySem.W.Frag) (vs : List Nat) (σ : St) (Q : St → Hp → Prop) (μ : List Addr) (L : LH) (H : Hp) : Option (LS × LH) → Prop
  | some (l, L') => ∀ μ' σ' H', Le μ L H μ' L' H' → HRel G w K μ' L' H' → SRel K μ' H' l σ' → wipe σ' vs = wipe σ vs → Q σ' H'
  | none => False
def GcR (G : Gm) (w : World) (K : PySem.W.Frag) (vs : List Nat) (g : Lg) : TG := fun v σ H Q => ∃ μ l L x, SRel K μ H l σ ∧ HRel G w K μ L H ∧ VRel K μ H x v ∧ OutGc G w K vs σ Q μ L H (g x l L)
abbrev JGc (X : Cx) (G : Gm) (vs : List Nat) (tg : Expr) (g : Lg) : Prop := PG X tg (GcR G X.w X.K vs g)
def JGcs (X : Cx) (G : Gm) (vs : List Nat) (tg : List Expr) (g : Lgs) : Prop := PGs X tg fun v σ H Q => ∃ μ l L x, SRel X.K μ H l σ ∧ HRel G X.w X.K μ L H ∧ VRels X.K μ H x v ∧ OutGc G X.w X.K vs σ Q μ L H (g x l L)
section
variable {X : Cx} {G : Gm} {vs : List Nat} {pos : Pos}
theorem jgc_name {i : Nat} {x : Str} (h : PG X (.Name x pos) (gName i)) (hi : i ∈ vs) : JGc X G vs (.Name x pos) (gNm i) := PG.imp h fun v σ H Q ⟨μ, l, L, x, s, h, r, o⟩ => o μ _ H (Le.refl _ _ _) h (s.set r) (wipe_set_in hi)
theorem jgcs_nil : JGcs X G vs [] gsNil := PGs.imp pgs_nil fun v σ H Q ⟨μ, l, L, x, s, h, r, o⟩ => by
  cases x with
  | nil => cases r; exact ⟨rfl, o μ _ H (Le.refl _ _ _) h s rfl⟩
  | cons y ys => exact o.elim
theorem jgcs_cons {t : Expr} {ts : List Expr} {g : Lg} {r : Lgs} (h1 : JGc X G vs t g) (h2 : JGcs X G vs ts r) (hst : List.map (fun x => x.snd) (assignEach (t :: ts) X.env) = assign t X.env :: List.map (fun x => x.snd) (assignEach ts X.env) := by rfl) : JGcs X G vs (t :: ts) (gsCons g r) := by
  refine PGs.imp (pgs_cons h1 h2 hst) fun v σ H Q ⟨μ, l, L, x, s, h, rx, o⟩ => ?_
  cases x with
  | nil => exact o.elim
  | cons y ys =>
    obtain ⟨v1, vr, rfl, r1, r2⟩ := rx
    refine ⟨v1, vr, rfl, μ, l, L, y, s, h, r1, ?_⟩
    unfold gsCons at o
    dsimp only at o
    cases e : g y l L with
    | none => rw [e] at o; exact o
    | some p =>
      obtain ⟨l1, L1⟩ := p
      rw [e] at o
      intro μ' σ' H' a b c d
      refine ⟨μ', l1, L1, ys, c, b, VRels.le a ys r2, ?_⟩
      dsimp only at o
      cases e2 : r ys l1 L1 with
      | none => rw [e2] at o; exact o
      | some q => rw [e2] at o; exact fun μ2 σ2 H2 a2 b2 c2 d2 => o μ2 σ2 H2 (a.trans a2) b2 c2 (d2.trans d)
theorem jgc_tup {es : List Expr} {k : Nat} {g : Lgs} {n : Nat} (hc : X.calm = true) (h : JGcs X G vs es g) (hn : (assignEach es X.env).length = n := by rfl) (hst : (assignEach es X.env).findIdx? (·.1) = none := by rfl) : JGc X G vs (.Tuple es k pos) (gTp n g) :=
  PG.imp (pg_tup hc h hn hst) fun v σ H Q ⟨μ, l, L, x, s, h, rx, o⟩ => by
    cases x with
    | tup xs =>
      obtain ⟨a, us, rfl, sq, r⟩ := rx
      unfold gTp at o
      dsimp only at o
      split at o
      · rename_i e
        exact ⟨a, us, rfl, sq, by rw [r.length]; exact e, μ, l, L, xs, s, h, r, o⟩
      · exact o.elim
    | _ => exact o.elim
end

/-! ### [e for t in i if c] -/
/-- a turn: what becomes of the heap, none: not covered -/
def cTurn (g : Lg) (t : Lm Bool) (e : LS → LH → Option LH) (x : LV) (l : LS) (L : LH) : Option LH := match g x l L with
  | none => none
  | some (l2, L2) => match t l2 L2 with
    | .ok false L3 => some L3
    | .ok true L3 => e l2 L3
    | _ => none
def cLoop (it : LI) (turn : LV → LH → Option LH) : Nat → Nat → LH → Option LH
  | 0, _, _ => none
  | f + 1, i, L => match it.turn i L with
    | none => none
    | some none => some L
    | some (some x) => match turn x L with
      | none => none
      | some L2 => cLoop it turn f (i + 1) L2
def cApp (n : Nat) (e : Lm LV) : LS → LH → Option LH := fun l L => match e l L with
  | .ok y L4 => (match L4[n]? with
    | some (.lst acc) => if Nat.blt acc.length sizeLine = true then some (L4.set n (.lst (acc ++ [y]))) else none
    | _ => none)
  | _ => none
def eLc (m : Lm LI) (g : Lg) (t : Lm Bool) (e : Lm LV) (vs : List Nat) : Lm LV := fun l L => (m l L).bind fun it L1 =>
  match cLoop it (fun x L => cTurn g t (cApp L1.length e) x (lwipe l vs) L) it.fuel 0 (L1 ++ [.lst []]) with
  | some L2 => .ok (.ref L1.length) L2
  | none => .bad
def tYesL : Lm Bool := fun _ L => .ok true L
abbrev W0 : WX := fun _ _ _ _ => False
abbrev JTs (X : Cx) (G : Gm) (ifs : List Expr) (t : Lm Bool) : Prop := PTs X ifs (TX RB G X.w X.K W0 t)
theorem jts_nil {X : Cx} {G : Gm} : JTs X G [] tYesL := ⟨fun pins s σ H Q I ⟨μ, l, L, s', h, o⟩ => pts_nil.run pins s σ H Q I (Out.here o h rfl)⟩
theorem jts_one {X : Cx} {G : Gm} {c : Expr} {t : Lm Bool} (h : JT X G W0 c t) : JTs X G [c] t := pts_one h
section
variable {G : Gm} {w : World} {K : PySem.W.Frag} {σ : St} {μ : List Addr} {l : LS} {L : LH} {H : Hp}
/-- a turn as the layer reads it -/
theorem turn_of {vs : List Nat} {g : Lg} {t : Lm Bool} {e : LS → LH → Option LH} {x : LV} {v : V} {L2 : LH} {te : St → Hp → Prop} {Nx : Hp → Prop}
    (s : SRel K μ H l σ) (h : HRel G w K μ L H) (r : VRel K μ H x v) (o : cTurn g t e x l L = some L2)
    (hN : ∀ μ' H', Le μ L H μ' L2 H' → HRel G w K μ' L2 H' → Nx H')
    (he : ∀ μ' l' L' σ' H', Le μ L H μ' L' H' → SRel K μ' H' l' σ' → HRel G w K μ' L' H' → e l' L' = some L2 → te σ' H') :
    (∃ μ l L x, SRel K μ H l σ ∧ HRel G w K μ L H ∧ VRel K μ H x v ∧ OutGc G w K vs σ (fun σ2 H2 => wipe σ2 vs = wipe σ vs ∧ TX RB G w K W0 t σ2 H2 fun b H3 => if b = true then te σ2 H3 else Nx H3) μ L H (g x l L)) := by
  refine ⟨μ, l, L, x, s, h, r, ?_⟩
  unfold cTurn at o
  cases eg : g x l L with
  | none => rw [eg] at o; cases o
  | some p =>
    obtain ⟨l2, L2'⟩ := p
    rw [eg] at o
    intro μ2 σ2 H2 le2 h2 s2 w2
    refine ⟨w2, μ2, l2, L2', s2, h2, ?_⟩
    dsimp only at o
    cases et : t l2 L2' with
    | ok b L3 =>
      rw [et] at o
      intro μ3 b' H3 le3 h3 rb
      cases rb
      cases b with
      | true => exact iteT (he μ3 l2 L3 σ2 H3 (le2.trans le3) (s2.le le3) h3 o)
      | false =>
        cases o
        exact iteF (hN μ3 H3 (le2.trans le3) h3)
    | ex e L3 => rw [et] at o; cases o
    | bad => rw [et] at o; cases o
theorem app_of {n : Nat} {D : Addr} {e : Lm LV} {L2 : LH} {Nx : Hp → Prop} (hD : μ[n]? = some D) (s : SRel K μ H l σ) (h : HRel G w K μ L H) (o : cApp n e l L = some L2)
    (hN : ∀ μ' H', Le μ L H μ' L2 H' → HRel G w K μ' L2 H' → Nx H') :
    TX (RV K) G w K W0 e σ H fun y H4 => ∃ acc, H4 D = some (.lst acc) ∧ acc.length < sizeLine ∧ Nx (upd H4 D (.lst (acc ++ [y]))) := by
  refine ⟨μ, l, L, s, h, ?_⟩
  unfold cApp at o
  cases ee : e l L with
  | ok y L4 =>
    rw [ee] at o
    dsimp only at o
    intro μ4 v H4 le4 h4 rv
    split at o
    · rename_i acc ha
      split at o
      · rename_i hz
        cases o
        have hD4 := le4.get hD
        obtain ⟨us, hu, ru⟩ := h4.obj n D _ hD4 ha
        refine ⟨us, hu, by rw [VRels.length ru]; exact Nat.blt_eq.mp hz, ?_⟩
        obtain ⟨le5, h5⟩ := h4.obj_set hD4 (o := .lst (us ++ [v])) (u := .lst (acc ++ [y])) (fun L' le => ⟨us ++ [v], upd_same, VRels.le le _ (VRels.append ru (VRels.one rv))⟩) (fun v' kvs e => by rw [ha] at e; cases e)
        exact hN μ4 _ (le4.trans le5) h5
      · cases o
    · cases o
  | ex x L4 => rw [ee] at o; cases o
  | bad => rw [ee] at o; cases o
end
section
variable {X : Cx} {G : Gm} {W : WX} {pos : Pos}
/-- the walk of a block: from turn i on -/
def Wk (G : Gm) (w : World) (K : PySem.W.Frag) (it : LI) (turn : LV → LH → Option LH) (L2 : LH) (μ0 : List Addr) (L0 : LH) (H0 : Hp) (i m : Nat) (H : Hp) : Prop :=
  ∃ μ L, Le μ0 L0 H0 μ L H ∧ HRel G w K μ L H ∧ cLoop it turn m i L = some L2
theorem wk_step {G : Gm} {w : World} {K : PySem.W.Frag} {J : It} {it : LI} {turn : LV → LH → Option LH} {L2 : LH} {μ0 : List Addr} {L0 : LH} {H0 : Hp} {i m : Nat} {H : Hp} {Qe : Hp → Prop} {Y : (Hp → Prop) → V → Hp → Prop}
    (mt : Mt G w K J it μ0 L0 H0) (wk : Wk G w K it turn L2 μ0 L0 H0 i m H) (he : ∀ μ H', Le μ0 L0 H0 μ L2 H' → HRel G w K μ L2 H' → Qe H')
    (hy : ∀ μ L x v H' L3 Nx, Le μ0 L0 H0 μ L H' → HRel G w K μ L H' → VRel K μ H' x v → turn x L = some L3 → (∀ μ' H'', Le μ L H' μ' L3 H'' → HRel G w K μ' L3 H'' → Nx H'') → Y Nx v H') :
    (J.stop i H ∧ Qe H) ∨ (J.go i H ∧ ∃ Nx : Hp → Prop, (∀ H', Nx H' → ∃ m', m' < m ∧ Wk G w K it turn L2 μ0 L0 H0 (i + 1) m' H') ∧ ∀ v H', J.yld i H v H' → Y Nx v H') := by
  obtain ⟨μ, L, le, h, o⟩ := wk
  cases m with
  | zero => cases o
  | succ m =>
    unfold cLoop at o
    have mi := mt i μ L H le h
    cases et : it.turn i L with
    | none => rw [et] at o; cases o
    | some t =>
      rw [et] at o mi
      cases t with
      | none =>
        cases o
        exact .inl ⟨mi, he μ H le h⟩
      | some x =>
        dsimp only at o mi
        cases eu : turn x L with
        | none => rw [eu] at o; cases o
        | some L3 =>
          rw [eu] at o
          refine .inr ⟨mi.1, Wk G w K it turn L2 μ0 L0 H0 (i + 1) m, fun H' q => ⟨m, Nat.lt_succ_self _, q⟩, fun v H' y => ?_⟩
          obtain ⟨le1, h1, rv⟩ := mi.2 v H' y
          exact hy μ L x v H' L3 _ (le.trans le1) h1 rv eu fun μ' H'' a b => ⟨μ', L3, (le.trans le1).trans a, b, o⟩
theorem Mt.le {G : Gm} {w : World} {K : PySem.W.Frag} {J : It} {it : LI} {μ0 μ1 : List Addr} {L0 L1 : LH} {H0 H1 : Hp} (m : Mt G w K J it μ0 L0 H0) (le : Le μ0 L0 H0 μ1 L1 H1) : Mt G w K J it μ1 L1 H1 := fun i μ L H l h => m i μ L H (le.trans l) h
theorem new_last {α β : Type} {xs : List β} {ys : List α} {y : α} {n : Nat} (h : ys.length = xs.length) (hn : n = xs.length) : (ys ++ [y])[n]? = some y := by
  subst hn
  rw [← h, List.getElem?_append_right (Nat.le_refl _), Nat.sub_self]
  rfl
theorem lc_of {wi : Lm LI} {g : Lg} {t : Lm Bool} {e : Lm LV} {vs : List Nat} {w : World} {K : PySem.W.Frag} {σ : St} {H : Hp} {Q : VK} (q : TX (RV K) G w K W (eLc wi g t e vs) σ H Q) :
    tLc (TIx G w K W wi) (GcR G w K vs g) (TX RB G w K W0 t) (TX (RV K) G w K W0 e) vs σ H Q := by
  obtain ⟨μ, l, L, s, h, o⟩ := q
  refine ⟨μ, l, L, s, h, ?_⟩
  unfold eLc at o
  cases em : wi l L with
  | ex x L1 => rw [em] at o; exact o
  | bad => rw [em] at o; exact o
  | ok it L1 =>
    rw [em] at o
    intro μ1 H1 J le1 h1 mt D hD
    dsimp only [Rs.bind_ok] at o
    split at o
    · rename_i L2 el
      obtain ⟨le2, h2⟩ := h1.obj_new hD (o := .lst []) (u := .lst []) (fun _ z => nomatch z) fun μ' L' le => ⟨[], upd_same, rfl⟩
      have hn : (μ1 ++ [D])[L1.length]? = some D := new_last (xs := L1) h1.len rfl
      refine ⟨Wk G w K it (fun x L => cTurn g t (cApp L1.length e) x (lwipe l vs) L) L2 (μ1 ++ [D]) (L1 ++ [.lst []]) (upd H1 D (.lst [])), ⟨it.fuel, μ1 ++ [D], _, Le.refl _ _ _, h2, el⟩, fun i m H wk => ?_⟩
      have s3 : SRel K (μ1 ++ [D]) (upd H1 D (.lst [])) l σ := (s.le le1).le le2
      refine wk_step (Qe := fun H => Q (.ref D) H) (Y := fun Nx x H' => ∃ μ l L y, SRel K μ H' l (wipe σ vs) ∧ HRel G w K μ L H' ∧ VRel K μ H' y x ∧ OutGc G w K vs (wipe σ vs) (fun σ2 H2 => wipe σ2 vs = wipe σ vs ∧ TX RB G w K W0 t σ2 H2 fun b H3 => if b = true then TX (RV K) G w K W0 e σ2 H3 fun y H4 => ∃ acc, H4 D = some (.lst acc) ∧ acc.length < sizeLine ∧ Nx (upd H4 D (.lst (acc ++ [y]))) else Nx H3) μ L H' (g y l L)) (mt.le le2) wk
        (fun μ H' le h => o μ (.ref D) H' ((le1.trans le2).trans le) h ⟨D, le.get hn, rfl⟩) fun μ L x v H' L3 Nx le h rv tn hN => ?_
      have z := turn_of (vs := vs) (te := fun σ2 H3 => TX (RV K) G w K W0 e σ2 H3 fun y H4 => ∃ acc, H4 D = some (.lst acc) ∧ acc.length < sizeLine ∧ Nx (upd H4 D (.lst (acc ++ [y])))) (Nx := Nx) ((s3.wipe vs).le le) h rv tn hN
        (fun μ' l' L' σ' H'' le' s' h' o' => app_of (le'.get (le.get hn)) s' h' o' fun μ5 H5 le5 h5 => hN μ5 H5 (le'.trans le5) h5)
      obtain ⟨μ', l', L', x', a1, a2, a3, a4⟩ := z
      refine ⟨μ', l', L', x', a1, a2, a3, ?_⟩
      cases eg : g x' l' L' with
      | none => rw [eg] at a4; exact a4
      | some p =>
        rw [eg] at a4
        intro μ6 σ6 H6 b1 b2 b3 b4
        obtain ⟨c1, c2⟩ := a4 μ6 σ6 H6 b1 b2 b3 b4
        have hw : wipe (wipe σ vs) vs = wipe σ vs := by
          clear c1 c2 a4 b4
          apply List.ext_getElem?
          intro j
          by_cases hj : j ∈ vs
          · have key : ∀ (us : List Nat) (τ : St), j ∈ us → (wipe τ us)[j]? = if j < τ.length then some none else none := by
              intro us
              induction us with
              | nil => intro τ h; cases h
              | cons u us ih =>
                intro τ h
                unfold wipe
                by_cases hu : u = j
                · subst hu
                  rw [List.getElem?_set]
                  simp [wipe_length]
                · rw [List.getElem?_set_ne hu]
                  exact ih τ (by
                    rcases List.mem_cons.mp h with z | z
                    · exact absurd z.symm hu
                    · exact z)
            rw [key vs _ hj, key vs _ hj, wipe_length]
          · rw [wipe_out hj]
        exact ⟨c1.trans hw, c2⟩
    · exact o.elim
theorem je_lc {elt tg iter : Expr} {ifs : List Expr} {scope : Scope} {own : List (Str × Nat)} {wi : Lm LI} {g : Lg} {t : Lm Bool} {e : Lm LV} (hc : X.calm = true) (hN : X.N.Nodup) (hi : JI X G W tg iter wi) (ok : BlkOk X.N X.env.scope scope own)
    (hg : ∀ (s : Shared) (H : Hp) (C : Addr) (cl : List (Str × Addr)) (fp : List Addr), JGc (X.blk s H scope (compEnvC scope cl C X.env) fp) G (own.map (·.2)) tg g) (ht : ∀ (s : Shared) (H : Hp) (C : Addr) (cl : List (Str × Addr)) (fp : List Addr), JTs (X.blk s H scope (compEnvC scope cl C X.env) fp) G ifs t)
    (he : ∀ (s : Shared) (H : Hp) (C : Addr) (cl : List (Str × Addr)) (fp : List Addr), JE (X.blk s H scope (compEnvC scope cl C X.env) fp) G W0 elt e) (hs : ∀ x, foldedSetIterable iter X.env x = pure x := by intro _; rfl) :
    JE X G W (.ListComp elt [⟨tg, iter, ifs, 0⟩] scope pos) (eLc wi g t e (own.map (·.2))) := PE.imp (pe_lc hc hN hi ok hg ht he hs) fun _ _ _ => lc_of
theorem js_lc {i : Nat} {y : Str} {py : Pos} {elt tg iter : Expr} {ifs : List Expr} {scope : Scope} {own : List (Str × Nat)} {spos : Pos} {wi : Lm LI} {g : Lg} {t : Lm Bool} {e : Lm LV} (hc : X.calm = true) (hN : X.N.Nodup) (hy : X.N[i]? = some y) (hyl : X.env.scope.names.lookup y = some .local)
    (hsw : swapsWith (.ListComp elt [⟨tg, iter, ifs, 0⟩] scope pos) (some (.Name y py)) spos.line X.env = pure true) (hi : JI X G W tg iter wi) (ok : BlkOk X.N X.env.scope scope own)
    (hg : ∀ (s : Shared) (H : Hp) (C : Addr) (cl : List (Str × Addr)) (fp : List Addr), JGc (X.blk s H scope (compEnvC scope cl C X.env) fp) G (own.map (·.2)) tg g) (ht : ∀ (s : Shared) (H : Hp) (C : Addr) (cl : List (Str × Addr)) (fp : List Addr), JTs (X.blk s H scope (compEnvC scope cl C X.env) fp) G ifs t)
    (he : ∀ (s : Shared) (H : Hp) (C : Addr) (cl : List (Str × Addr)) (fp : List Addr), JE (X.blk s H scope (compEnvC scope cl C X.env) fp) G W0 elt e) (hs : ∀ x, foldedSetIterable iter X.env x = pure x := by intro _; rfl) :
    JS X G W (.Assign [.Name y py] (.ListComp elt [⟨tg, iter, ifs, 0⟩] scope pos) spos) (sAsg (gNm i) (eLc wi g t e (own.map (·.2)))) :=
  PS.imp (ps_setLc hc hN hy hyl hsw hi ok hg ht he hs) fun D σ H ⟨μ, l, L, s, h, o⟩ => lc_of ((TX.thn (R := RV X.K) s h o).mono fun v H1 ⟨μ1, L1, x, le, s1, h1, r1, o1⟩ => o1 μ1 _ H1 (Le.refl _ _ _) h1 (s1.set r1))
end
end LT

set_option Elab.async false
set_option linter.all false
set_option autoImplicit false
set_option maxRecDepth 100000
set_option maxHeartbeats 4000000
namespace LT
open PySem PySem.Spec L2

theorem wipe_wipe (σ : St) (vs : List Nat) : wipe (wipe σ vs) vs = wipe σ vs := by
  apply List.ext_getElem?
  intro j
  by_cases hj : j ∈ vs
  · have key : ∀ (us : List Nat) (τ : St), j ∈ us → (wipe τ us)[j]? = if j < τ.length then some none else none := by
      intro us
      induction us with
      | nil => intro τ h; cases h
      | cons u us ih =>
        intro τ h
        unfold wipe
        by_cases hu : u = j
        · subst hu
          rw [List.getElem?_set]
          simp [wipe_length]
        · rw [List.getElem?_set_ne hu]
          exact ih τ (by
            rcases List.mem_cons.mp h with z | z
            · exact absurd z.symm hu
            · exact z)
    rw [key vs _ hj, key vs _ hj, wipe_length]
  · rw [wipe_out hj]
/-- the second clause: its walk, its turns -/
def cIn (m1 : Lm LI) (g1 : Lg) (t1 : Lm Bool) (e1 : LS → LH → Option LH) (vs1 : List Nat) : LS → LH → Option LH := fun l L => match m1 l L with
  | .ok it L1 => cLoop it (fun x L => cTurn g1 t1 e1 x (lwipe l vs1) L) it.fuel 0 L1
  | _ => none
def eLc2 (m : Lm LI) (g : Lg) (t : Lm Bool) (m1 : Lm LI) (g1 : Lg) (t1 : Lm Bool) (e : Lm LV) (vs vs1 : List Nat) : Lm LV := fun l L => (m l L).bind fun it L1 =>
  match cLoop it (fun x L => cTurn g t (cIn m1 g1 t1 (cApp L1.length e) vs1) x (lwipe l vs) L) it.fuel 0 (L1 ++ [.lst []]) with
  | some L2 => .ok (.ref L1.length) L2
  | none => .bad
section
variable {G : Gm} {w : World} {K : PySem.W.Frag} {W : WX} {σ : St} {μ : List Addr} {l : LS} {L : LH} {H : Hp}
theorem turn_at {vs : List Nat} {g : Lg} {t : Lm Bool} {e : LS → LH → Option LH} {x : LV} {v : V} {L2 : LH} {te : St → Hp → Prop} {Nx : Hp → Prop}
    (s : SRel K μ H l σ) (h : HRel G w K μ L H) (r : VRel K μ H x v) (o : cTurn g t e x (lwipe l vs) L = some L2)
    (hN : ∀ μ' H', Le μ L H μ' L2 H' → HRel G w K μ' L2 H' → Nx H')
    (he : ∀ μ' l' L' σ' H', Le μ L H μ' L' H' → SRel K μ' H' l' σ' → HRel G w K μ' L' H' → e l' L' = some L2 → te σ' H') :
    GcR G w K vs g v (wipe σ vs) H fun σ2 H2 => wipe σ2 vs = wipe σ vs ∧ TX RB G w K W0 t σ2 H2 fun b H3 => if b = true then te σ2 H3 else Nx H3 := by
  obtain ⟨μ', l', L', x', a1, a2, a3, a4⟩ := turn_of (vs := vs) (te := te) (Nx := Nx) (s.wipe vs) h r o hN he
  refine ⟨μ', l', L', x', a1, a2, a3, ?_⟩
  cases eg : g x' l' L' with
  | none => rw [eg] at a4; exact a4
  | some p =>
    rw [eg] at a4
    intro μ6 σ6 H6 b1 b2 b3 b4
    obtain ⟨c1, c2⟩ := a4 μ6 σ6 H6 b1 b2 b3 b4
    exact ⟨c1.trans (wipe_wipe σ vs), c2⟩
theorem in_of {m1 : Lm LI} {g1 : Lg} {t1 : Lm Bool} {e1 : LS → LH → Option LH} {vs1 : List Nat} {L2 : LH} {Nx : Hp → Prop} {te : (Hp → Prop) → St → Hp → Prop} (s : SRel K μ H l σ) (h : HRel G w K μ L H) (o : cIn m1 g1 t1 e1 vs1 l L = some L2)
    (hN : ∀ μ' H', Le μ L H μ' L2 H' → HRel G w K μ' L2 H' → Nx H')
    (he : ∀ μ' l' L' σ' H' L3 Nx1, Le μ L H μ' L' H' → SRel K μ' H' l' σ' → HRel G w K μ' L' H' → e1 l' L' = some L3 → (∀ μ3 H3, Le μ' L' H' μ3 L3 H3 → HRel G w K μ3 L3 H3 → Nx1 H3) → te Nx1 σ' H') :
    TIx G w K W0 m1 σ H fun J1 H4 => ∃ W1 : Nat → Nat → Hp → Prop, (∃ m, W1 0 m H4) ∧ ∀ j k H, W1 j k H →
      (J1.stop j H ∧ Nx H) ∨ (J1.go j H ∧ ∃ Nx1 : Hp → Prop, (∀ H', Nx1 H' → ∃ k', k' < k ∧ W1 (j + 1) k' H') ∧ ∀ x H', J1.yld j H x H' → GcR G w K vs1 g1 x (wipe σ vs1) H' fun σ3 H5 => wipe σ3 vs1 = wipe σ vs1 ∧ TX RB G w K W0 t1 σ3 H5 fun b H6 =>
        if b = true then te Nx1 σ3 H6 else Nx1 H6) := by
  refine ⟨μ, l, L, s, h, ?_⟩
  unfold cIn at o
  cases em : m1 l L with
  | ex x L1 => rw [em] at o; cases o
  | bad => rw [em] at o; cases o
  | ok it L1 =>
    rw [em] at o
    intro μ1 H1 J le1 h1 mt
    refine ⟨Wk G w K it (fun x L => cTurn g1 t1 e1 x (lwipe l vs1) L) L2 μ1 L1 H1, ⟨it.fuel, μ1, L1, Le.refl _ _ _, h1, o⟩, fun i m H2 wk => ?_⟩
    refine wk_step (Qe := Nx) (Y := fun Nx1 x H' => GcR G w K vs1 g1 x (wipe σ vs1) H' fun σ3 H5 => wipe σ3 vs1 = wipe σ vs1 ∧ TX RB G w K W0 t1 σ3 H5 fun b H6 =>
        if b = true then te Nx1 σ3 H6 else Nx1 H6) mt wk (fun μ' H' le h' => hN μ' H' (le1.trans le) h') fun μ2 L2' x v H' L3 Nx1 le h' rv tn hN1 => ?_
    exact turn_at (te := te Nx1) ((s.le le1).le le) h' rv tn hN1 fun μ3 l3 L4 σ3 H3 le3 s3 h3 o3 => he μ3 l3 L4 σ3 H3 L3 Nx1 ((le1.trans le).trans le3) s3 h3 o3 fun μ5 H5 le5 h5 => hN1 μ5 H5 (le3.trans le5) h5
theorem lc2_of {wi wi1 : Lm LI} {g g1 : Lg} {t t1 : Lm Bool} {e : Lm LV} {vs vs1 : List Nat} {Q : VK} (q : TX (RV K) G w K W (eLc2 wi g t wi1 g1 t1 e vs vs1) σ H Q) :
    tLc2 (TIx G w K W wi) (GcR G w K vs g) (TX RB G w K W0 t) (TIx G w K W0 wi1) (GcR G w K vs1 g1) (TX RB G w K W0 t1) (TX (RV K) G w K W0 e) vs vs1 σ H Q := by
  obtain ⟨μ, l, L, s, h, o⟩ := q
  refine ⟨μ, l, L, s, h, ?_⟩
  unfold eLc2 at o
  cases em : wi l L with
  | ex x L1 => rw [em] at o; exact o
  | bad => rw [em] at o; exact o
  | ok it L1 =>
    rw [em] at o
    intro μ1 H1 J le1 h1 mt D hD
    dsimp only [Rs.bind_ok] at o
    split at o
    · rename_i L2 el
      obtain ⟨le2, h2⟩ := h1.obj_new hD (o := .lst []) (u := .lst []) (fun _ z => nomatch z) fun μ' L' le => ⟨[], upd_same, rfl⟩
      have hn : (μ1 ++ [D])[L1.length]? = some D := new_last (xs := L1) h1.len rfl
      refine ⟨Wk G w K it (fun x L => cTurn g t (cIn wi1 g1 t1 (cApp L1.length e) vs1) x (lwipe l vs) L) L2 (μ1 ++ [D]) (L1 ++ [.lst []]) (upd H1 D (.lst [])), ⟨it.fuel, μ1 ++ [D], _, Le.refl _ _ _, h2, el⟩, fun i m H wk => ?_⟩
      have s3 : SRel K (μ1 ++ [D]) (upd H1 D (.lst [])) l σ := (s.le le1).le le2
      refine wk_step (Qe := fun H => Q (.ref D) H) (Y := fun Nx x H' => GcR G w K vs g x (wipe σ vs) H' fun σ2 H2 => wipe σ2 vs = wipe σ vs ∧ TX RB G w K W0 t σ2 H2 fun b H3 => if b = true then _ else Nx H3) (mt.le le2) wk
        (fun μ H' le h => o μ (.ref D) H' ((le1.trans le2).trans le) h ⟨D, le.get hn, rfl⟩) fun μ L x v H' L3 Nx le h rv tn hN => ?_
      refine turn_at (s3.le le) h rv tn hN fun μ' l' L' σ' H'' le' s' h' o' => ?_
      refine in_of (te := fun Nx1 σ3 H6 => TX (RV K) G w K W0 e σ3 H6 fun y H7 => ∃ acc, H7 D = some (.lst acc) ∧ acc.length < sizeLine ∧ Nx1 (upd H7 D (.lst (acc ++ [y])))) s' h' o' (fun μ5 H5 le5 h5 => hN μ5 H5 (le'.trans le5) h5) fun μ6 l6 L6 σ6 H6 L7 Nx1 le6 s6 h6 o6 hN6 => ?_
      exact app_of (le6.get (le'.get (le.get hn))) s6 h6 o6 hN6
    · exact o.elim
end
section
variable {X : Cx} {G : Gm} {W : WX} {pos : Pos}
theorem je_lc2 {elt tg iter tg1 iter1 : Expr} {ifs ifs1 : List Expr} {scope : Scope} {own : List (Str × Nat)} {vs1 : List Nat} {wi wi1 : Lm LI} {g g1 : Lg} {t t1 : Lm Bool} {e : Lm LV} (hc : X.calm = true) (hN : X.N.Nodup) (hi : JI X G W tg iter wi) (ok : BlkOk X.N X.env.scope scope own) (hv : ∀ i ∈ vs1, i ∈ own.map (·.2))
    (hg : ∀ (s : Shared) (H : Hp) (C : Addr) (cl : List (Str × Addr)) (fp : List Addr), JGc (X.blk s H scope (compEnvC scope cl C X.env) fp) G (own.map (·.2)) tg g) (ht : ∀ (s : Shared) (H : Hp) (C : Addr) (cl : List (Str × Addr)) (fp : List Addr), JTs (X.blk s H scope (compEnvC scope cl C X.env) fp) G ifs t)
    (hi1 : ∀ (s : Shared) (H : Hp) (C : Addr) (cl : List (Str × Addr)) (fp : List Addr), JI (X.blk s H scope (compEnvC scope cl C X.env) fp) G W0 tg1 iter1 wi1)
    (hg1 : ∀ (s : Shared) (H : Hp) (C : Addr) (cl : List (Str × Addr)) (fp : List Addr), JGc (X.blk s H scope (compEnvC scope cl C X.env) fp) G vs1 tg1 g1) (ht1 : ∀ (s : Shared) (H : Hp) (C : Addr) (cl : List (Str × Addr)) (fp : List Addr), JTs (X.blk s H scope (compEnvC scope cl C X.env) fp) G ifs1 t1)
    (he : ∀ (s : Shared) (H : Hp) (C : Addr) (cl : List (Str × Addr)) (fp : List Addr), JE (X.blk s H scope (compEnvC scope cl C X.env) fp) G W0 elt e) (hs : ∀ x, foldedSetIterable iter X.env x = pure x := by intro _; rfl) (hs1 : ∀ env x, foldedSetIterable iter1 env x = pure x := by intro _ _; rfl) :
    JE X G W (.ListComp elt [⟨tg, iter, ifs, 0⟩, ⟨tg1, iter1, ifs1, 0⟩] scope pos) (eLc2 wi g t wi1 g1 t1 e (own.map (·.2)) vs1) := PE.imp (pe_lc2 hc hN hi ok hv hg ht hi1 hg1 ht1 he hs hs1) fun _ _ _ => lc2_of
theorem js_lc2 {i : Nat} {y : Str} {py : Pos} {elt tg iter tg1 iter1 : Expr} {ifs ifs1 : List Expr} {scope : Scope} {own : List (Str × Nat)} {vs1 : List Nat} {spos : Pos} {wi wi1 : Lm LI} {g g1 : Lg} {t t1 : Lm Bool} {e : Lm LV} (hc : X.calm = true) (hN : X.N.Nodup) (hy : X.N[i]? = some y) (hyl : X.env.scope.names.lookup y = some .local)
    (hsw : swapsWith (.ListComp elt [⟨tg, iter, ifs, 0⟩, ⟨tg1, iter1, ifs1, 0⟩] scope pos) (some (.Name y py)) spos.line X.env = pure true) (hi : JI X G W tg iter wi) (ok : BlkOk X.N X.env.scope scope own) (hv : ∀ i ∈ vs1, i ∈ own.map (·.2))
    (hg : ∀ (s : Shared) (H : Hp) (C : Addr) (cl : List (Str × Addr)) (fp : List Addr), JGc (X.blk s H scope (compEnvC scope cl C X.env) fp) G (own.map (·.2)) tg g) (ht : ∀ (s : Shared) (H : Hp) (C : Addr) (cl : List (Str × Addr)) (fp : List Addr), JTs (X.blk s H scope (compEnvC scope cl C X.env) fp) G ifs t)
    (hi1 : ∀ (s : Shared) (H : Hp) (C : Addr) (cl : List (Str × Addr)) (fp : List Addr), JI (X.blk s H scope (compEnvC scope cl C X.env) fp) G W0 tg1 iter1 wi1)
    (hg1 : ∀ (s : Shared) (H : Hp) (C : Addr) (cl : List (Str × Addr)) (fp : List Addr), JGc (X.blk s H scope (compEnvC scope cl C X.env) fp) G vs1 tg1 g1) (ht1 : ∀ (s : Shared) (H : Hp) (C : Addr) (cl : List (Str × Addr)) (fp : List Addr), JTs (X.blk s H scope (compEnvC scope cl C X.env) fp) G ifs1 t1)
    (he : ∀ (s : Shared) (H : Hp) (C : Addr) (cl : List (Str × Addr)) (fp : List Addr), JE (X.blk s H scope (compEnvC scope cl C X.env) fp) G W0 elt e) (hs : ∀ x, foldedSetIterable iter X.env x = pure x := by intro _; rfl) (hs1 : ∀ env x, foldedSetIterable iter1 env x = pure x := by intro _ _; rfl) :
    JS X G W (.Assign [.Name y py] (.ListComp elt [⟨tg, iter, ifs, 0⟩, ⟨tg1, iter1, ifs1, 0⟩] scope pos) spos) (sAsg (gNm i) (eLc2 wi g t wi1 g1 t1 e (own.map (·.2)) vs1)) :=
  PS.imp (ps_setLc2 hc hN hy hyl hsw hi ok hv hg ht hi1 hg1 ht1 he hs hs1) fun D σ H ⟨μ, l, L, s, h, o⟩ => lc2_of ((TX.thn (R := RV X.K) s h o).mono fun v H1 ⟨μ1, L1, x, le, s1, h1, r1, o1⟩ => o1 μ1 _ H1 (Le.refl _ _ _) h1 (s1.set r1))
end

/-! ### {k: v for t in i if c} -/
/-- d[k] = y by a block -/
theorem ld_dictSet {X : Cx} {G : Gm} {pins : List (Addr × Obj)} {σ : St} {H : Hp} {s : Shared} {E : Value → Shared → Prop} {μ : List Addr} {L : LH} {n : Nat} {a : Addr} {vv : Nat} {kvs : List (LV × LV)} {k y : LV} {x v : V} {u w' : Value} {Q : Unit → Shared → Prop} (hu : X.A.units + 64 < cLine) (I : Inv X pins σ H s) (hr : HRel G X.w X.K μ L H) (hn : L[n]? = some (.dct vv kvs)) (ha : μ[n]? = some a) (rk : VRel X.K μ H k x) (ru : RelV x u) (ok : dkey kvs k = true)
    (rv : VRel X.K μ H y v) (rw' : RelV v w') (hz : kvs.length < sizeLine) (h : ∀ s' o', Inv X pins σ (upd H a (dX a o')) s' → Le μ L H μ (L.set n (.dct (vv + 1) (dput kvs k y))) (upd H a (dX a o')) → HRel G X.w X.K μ (L.set n (.dct (vv + 1) (dput kvs k y))) (upd H a (dX a o')) → Q () s') :
    wpAny (model X.prog X.w) X.A (dictSet a u w') Q E s := by
  obtain ⟨o, ho, hm, d⟩ := dct_of hr hn ha
  have hz' : (dput kvs k y).length ≤ sizeLine := Nat.le_trans (dput_len k y kvs) hz
  obtain ⟨ok1, ⟨it, al⟩ | ⟨it, al⟩⟩ := dkey_kd ok d.kd
  · obtain ⟨xs, dd, pt, hx⟩ := d.tup I ho al
    obtain ⟨b, rfl, rfl⟩ := isT_of it rk ru
    refine wpAny_dictSet_heap (hsz := hx) (show X.A.units + 8 < cLine by omega) (is_of I it ok1 rk) dd fun h' dd' hs => ?_
    obtain ⟨o', e, d'⟩ := DRel.ofT dd' (tput rk rv rw' ok1 it pt d.nd) hz'
    obtain ⟨I', le, hr'⟩ := ld_write (t' := s.toks + (nestedKind X.prog X.w).draws (nk k)) I hr hn ha ho hm hs e d'
    exact h _ o' I' le hr'
  · obtain ⟨vs, dd, pt, hx⟩ := d.leaf I ho al
    obtain ⟨j, hj⟩ := kOf_ok ok1 it
    rw [kOf_rel hj] at rk
    subst rk
    refine wpAny_dictSet_pairs (hsz := hx) (kV_is ru) dd fun h' dd' hs => ?_
    obtain ⟨o', e, d'⟩ := DRel.ofL dd' (lput hj rv rw' pt d.nd) hz'
    obtain ⟨I', le, hr'⟩ := ld_write (t' := s.toks + 1) I hr hn ha ho hm hs e d'
    exact h _ o' I' le hr'
end LT

set_option Elab.async false
set_option linter.all false
set_option autoImplicit false
set_option maxRecDepth 100000
set_option maxHeartbeats 4000000
namespace LT
open PySem PySem.Spec L2

/-! ### {k: v for t in i if c}: the dict as it stands -/
def emptyD : Obj := { cls := .type "dict", data := .dict #[] }
abbrev TD := Addr → V → V → Hp → (Hp → Prop) → Prop
structure PD (X : Cx) (sd : TD) : Prop where
  run : ∀ (pins : List (Addr × Obj)) (s : Shared) (σ : St) (H : Hp) (D : Addr) (y z : V) (u r : Value) (Q : Hp → Prop), Inv X pins σ H s → RelV y u → RelV z r → sd D y z H Q →
    wpAny (model X.prog X.w) X.A (dictSet D u r) (fun _ s' => ∃ H', Inv X pins σ H' s' ∧ Q H') (fun _ _ => False) s
def tDx (wi : TI) (g : TG) (tt : TT) (tk tv : TE) (sd : TD) (vs : List Nat) : TE := fun σ H Q => wi σ H fun J H1 => ∀ D, H1 D = none → (D == sysModules) = false → ∃ W : Nat → Nat → Hp → Prop, (∃ m, W 0 m (upd H1 D (dX D emptyD))) ∧ ∀ i m H, W i m H →
  (J.stop i H ∧ Q (.ref D) H) ∨ (J.go i H ∧ ∃ Nx : Hp → Prop, (∀ H', Nx H' → ∃ m', m' < m ∧ W (i + 1) m' H') ∧ ∀ x H', J.yld i H x H' → g x (wipe σ vs) H' fun σ2 H2 => wipe σ2 vs = wipe σ vs ∧ tt σ2 H2 fun b H3 =>
    if b = true then tk σ2 H3 fun y H4 => tv σ2 H4 fun z H5 => sd D y z H5 Nx else Nx H3)
section
variable {X : Cx}
theorem dx_core {pins : List (Addr × Obj)} {s : Shared} {σ : St} {H : Hp} {Q : VK} {kx vx tg iter : Expr} {ifs : List Expr} {scope : Scope} {own : List (Str × Nat)} {pos pos' : Pos} {wi : TI} {g : TG} {tt : TT} {tk tv : TE} {sd : TD} {use : Option (Value → Sem Unit)} {Qf : Value → Shared → Prop}
    (hc : X.calm = true) (hN : X.N.Nodup) (I : Inv X pins σ H s) (hi : PI X tg iter wi) (ok : BlkOk X.N X.env.scope scope own)
    (body : ∀ (s : Shared) (H : Hp) (C : Addr) (cl : List (Str × Addr)) (fp : List Addr), PG (X.blk s H scope (compEnvC scope cl C X.env) fp) tg g ∧ PTs (X.blk s H scope (compEnvC scope cl C X.env) fp) ifs tt ∧ PE (X.blk s H scope (compEnvC scope cl C X.env) fp) kx tk ∧ PE (X.blk s H scope (compEnvC scope cl C X.env) fp) vx tv ∧ PD (X.blk s H scope (compEnvC scope cl C X.env) fp) sd)
    (hs : ∀ x, foldedSetIterable iter X.env x = pure x) (h : tDx wi g tt tk tv sd (own.map (·.2)) σ H Q)
    (hRR : ∀ D C s' m H', Inv X pins σ H' s' → Q (.ref D) H' → s'.heap.Ns C m → FpOk X pins H' C → compPost (model X.prog X.w) X.A X.xe use Qf (.ref D) C (.ok .next) s') :
    wpAny (model X.prog X.w) X.A (comprehension (.DictComp kx vx [⟨tg, iter, ifs, 0⟩] scope pos) scope X.env pos' newDict false (eval iter X.env) use) Qf X.xe s := by
  have cells : ∀ y ∈ scope.names, y.2 = .free → ∃ c, X.env.cells.lookup y.1 = some c := fun y hy e => I.ok.has _ (ok.free y hy e)
  refine wpAny_comprehension_free (use := use) rfl hs (closure_ok cells) ok.kind (fun y hy e => by rw [ok.uniq y hy, e]) (thn (hi.run pins s σ H _ I h) fun _ s1 hx => thn hx fun _ s2 h2 => ?_)
  obtain ⟨it, fp, tn, J, H2, rfl, I2, T, st2, f2, q⟩ := h2
  refine wpAny_newObj_type (newEnv_comp ?_)
  have fresh : H2 s2.heap.objs.size = none := I2.hok.fresh (Nat.le_refl _)
  have notMods : (s2.heap.objs.size == sysModules) = false := beq_eq_false_iff_ne.mpr (Ne.symm (Nat.ne_of_lt I2.big))
  obtain ⟨W, ⟨m0, w0⟩, turn⟩ := q _ fresh notMods
  have I3 : Inv X pins σ (upd H2 s2.heap.objs.size (dX s2.heap.objs.size emptyD)) { s2 with heap := s2.heap.push emptyD } :=
    I2.laid (t' := s2.toks) (fun b o e => Heap.get?_push_of_some _ e) (Nat.le_refl _) (dX_ok (Heap.get?_push_size _ rfl))
  have sz : ∀ b ∈ fp, b < s2.heap.objs.size := fun b hb => let ⟨_, e, _⟩ := T.obj _ _ st2 b hb; Heap.lt_size e
  have f3 : ∀ b ∈ fp, FpOk X pins (upd H2 s2.heap.objs.size (dX s2.heap.objs.size emptyD)) b ∧ b < (s2.heap.push emptyD).objs.size := fun b hb =>
    ⟨⟨by rw [upd_ne (Nat.ne_of_lt (sz b hb))]; exact (f2 b hb).1, (f2 b hb).2⟩, by rw [Heap.size_push]; exact Nat.lt_succ_of_lt (sz b hb)⟩
  have st3 : tn 0 (s2.heap.push emptyD) := T.keep _ _ _ st2 fun b _ o e => Heap.get?_push_of_some _ e
  have I4 := block_start I3 ok hN f3
  generalize hD : s2.heap.objs.size = D at *
  generalize hH3 : upd H2 D (dX D emptyD) = H3 at *
  show codeAny _ _ (.compStart (.DictComp kx vx [⟨tg, iter, ifs, 0⟩] scope pos) 0 (.ref it) (.ref D) (compEnvC scope (cellsFrom ((s2.heap.push emptyD).objs.size + 1) scope.names (cloFrom X.env.cells scope.names [])) (s2.heap.push emptyD).objs.size X.env)) (compPost (model X.prog X.w) X.A X.xe use Qf (.ref D) (s2.heap.push emptyD).objs.size) { s2 with heap := pushCells ((s2.heap.push emptyD).push emptyD) scope.names }
  generalize hs3 : ({ s2 with heap := s2.heap.push emptyD } : Shared) = s3 at *
  have hh3 : s2.heap.push emptyD = s3.heap := by rw [← hs3]
  rw [hh3] at f3 st3 ⊢
  have nfp : ∀ b ∈ fp, H3 b = none := fun b hb => (f3 b hb).1.1
  obtain ⟨pg, pt, pk, pv, pd⟩ := body s3 H3 s3.heap.objs.size (cellsFrom (s3.heap.objs.size + 1) scope.names (cloFrom X.env.cells scope.names [])) fp
  generalize hce : compEnvC scope (cellsFrom (s3.heap.objs.size + 1) scope.names (cloFrom X.env.cells scope.names [])) s3.heap.objs.size X.env = ce at I4 pg pt pk pv pd ⊢
  have cL : ce.locals = s3.heap.objs.size := by subst hce; rfl
  have es : ({ s2 with heap := pushCells (s3.heap.push emptyD) scope.names } : Shared) = { s3 with heap := pushCells (s3.heap.push emptyD) scope.names } := by rw [← hs3]
  rw [es]
  generalize hs4 : ({ s3 with heap := pushCells (s3.heap.push emptyD) scope.names } : Shared) = s4
  have I4 : Inv (X.blk s3 H3 scope ce fp) [] (wipe σ (own.map (·.2))) H3 s4 := by rw [← hs4]; exact I4
  have st4 : tn 0 s4.heap := T.keep _ _ _ st3 fun b _ o e => by rw [← hs4]; exact pushCells_keeps _ _ _ _ (Heap.get?_push_of_some _ e)
  have stat : ∀ {σ' : St} {H' : Hp} {s' : Shared}, Inv (X.blk s3 H3 scope ce fp) [] σ' H' s' → (∀ b ∈ fp, H' b = none) → ∀ b ∈ fp, FpOk (X.blk s3 H3 scope ce fp) [] H' b := fun {σ' H' s'} I' hn b hb =>
    ⟨hn b hb, (I'.ok.exf b hb).1, I'.ok.exfs b hb, .inl hb, fun x c e => (I'.ok.exf b hb).2 x c e, fun p hp => absurd (show p ∈ ([] : List (Addr × Obj)) ++ [] from hp) (by simp)⟩
  have loop : codeAny (model X.prog X.w) X.A (.compLoop (.DictComp kx vx [⟨tg, iter, ifs, 0⟩] scope pos) 0 (.ref it) (.ref D) ce) (compPost (model X.prog X.w) X.A X.xe use Qf (.ref D) s3.heap.objs.size) s4 := by
    refine compLoop_anyD (fun n s' => ∃ i H', Inv (X.blk s3 H3 scope ce fp) [] (wipe σ (own.map (·.2))) H' s' ∧ tn i s'.heap ∧ (∀ b ∈ fp, H' b = none) ∧ W i n H') ?_ m0 ⟨0, H3, I4, st4, nfp, w0⟩
    rintro n s5 ⟨i, H5, I5, st5, n5, w5⟩
    rcases turn i n H5 w5 with ⟨stop, qq⟩ | ⟨go, Nx, hNx, step⟩
    · refine thnF (T.done (X.blk s3 H3 scope ce fp) rfl rfl rfl hc i [] s5 _ H5 (fun _ _ => False) I5 (stat I5 n5) st5 stop) fun r s6 ⟨hr, I6⟩ => ?_
      subst hr
      have I7 : Inv X pins σ H5 s6 := I3.call' (ch := fp) I6.os I6.base I6.hok I6.bare fun b hb => ⟨(f3 b hb).1.2.2.2.1, (f3 b hb).1.2.1, (f3 b hb).1.2.2.2.2.1, (f3 b hb).1.2.2.2.2.2⟩
      have nC : H5 s3.heap.objs.size = none := by rw [← cL]; exact I6.free
      obtain ⟨m, hn, _⟩ := I6.loc
      have hn : s6.heap.Ns ce.locals m := hn
      rw [cL] at hn
      exact hRR D s3.heap.objs.size s6 m H5 I7 qq hn (I3.fpOk (Nat.le_refl _) nC)
    · refine thnF (T.item (X.blk s3 H3 scope ce fp) rfl rfl rfl hc i [] s5 _ H5 (fun _ _ => False) I5 (stat I5 n5) st5 go) fun r s6 ⟨u, hr, h6⟩ => ?_
      subst hr
      refine thnF h6 fun _ s7 ⟨x, H7, I7, r7, y7, st7, n7⟩ => ?_
      refine thnF (pg.run _ s7 _ H7 x u _ (I7.pinned (stat I7 n7) (T.obj _ _ st7)) r7 (step x H7 y7)) fun _ s8 ⟨σ8, H8, I8, hw8, q8⟩ => ?_
      refine thnF (pt.run _ s8 σ8 H8 _ I8 q8) fun b s9 ⟨H9, I9, q9⟩ => ?_
      have fin : ∀ {s' : Shared} {H' : Hp}, Inv (X.blk s3 H3 scope ce fp) ([] ++ pinsAt fp s7.heap) σ8 H' s' → Nx H' → ∃ m, m < n ∧ ∃ i H', Inv (X.blk s3 H3 scope ce fp) [] (wipe σ (own.map (·.2))) H' s' ∧ tn i s'.heap ∧ (∀ b ∈ fp, H' b = none) ∧ W i m H' := fun {s' H'} I' nx => by
        obtain ⟨m', hm, w'⟩ := hNx H' nx
        have pin' : ∀ b ∈ fp, ∀ o, s7.heap.get? b = some o → s'.heap.get? b = some o ∧ H' b = none := fun b hb o e =>
          let z := I'.pin (b, o) (List.mem_append_right _ (List.mem_append_right _ (mem_pinsAt hb e)))
          ⟨z.1, z.2.1⟩
        have hl : (wipe σ (own.map (·.2))).length = σ8.length := by rw [← hw8, wipe_length]
        refine ⟨m', hm, i + 1, H', (I'.unpinned (pins := [])).weak hl (fun j v e => ?_), T.keep _ _ _ st7 fun b hb o e => (pin' b hb o e).1, fun b hb => ?_, w'⟩
        · rw [← hw8] at e
          exact (wipe_some e).1
        · obtain ⟨o, e, _⟩ := T.obj _ _ st7 b hb
          exact (pin' b hb o e).2
      cases b with
      | false =>
        simp only [Bool.false_eq_true, if_false] at q9 ⊢
        exact fin I9 q9
      | true =>
        simp only [if_true] at q9 ⊢
        refine thnF (pk.run _ s9 σ8 H9 _ I9 q9) fun z s10 ⟨yk, H10, I10, r10, q10⟩ => ?_
        refine thnF (pv.run _ s10 σ8 H10 _ I10 q10) fun z2 s11 ⟨yv, H11, I11, r11, q11⟩ => ?_
        exact thnF (pd.run _ s11 σ8 H11 D yk yv z z2 Nx I11 r10 r11 q11) fun _ s12 ⟨H12, I12, nx⟩ => fin I12 nx
  exact codeAny_compStart_dict loop (T.self X.A 0 _ _ _ st4 loop)
theorem pe_dx {kx vx tg iter : Expr} {ifs : List Expr} {scope : Scope} {own : List (Str × Nat)} {pos : Pos} {wi : TI} {g : TG} {tt : TT} {tk tv : TE} {sd : TD} (hc : X.calm = true) (hN : X.N.Nodup) (hi : PI X tg iter wi) (ok : BlkOk X.N X.env.scope scope own)
    (body : ∀ (s : Shared) (H : Hp) (C : Addr) (cl : List (Str × Addr)) (fp : List Addr), PG (X.blk s H scope (compEnvC scope cl C X.env) fp) tg g ∧ PTs (X.blk s H scope (compEnvC scope cl C X.env) fp) ifs tt ∧ PE (X.blk s H scope (compEnvC scope cl C X.env) fp) kx tk ∧ PE (X.blk s H scope (compEnvC scope cl C X.env) fp) vx tv ∧ PD (X.blk s H scope (compEnvC scope cl C X.env) fp) sd)
    (hs : ∀ x, foldedSetIterable iter X.env x = pure x := by intro _; rfl) : PE X (.DictComp kx vx [⟨tg, iter, ifs, 0⟩] scope pos) (tDx wi g tt tk tv sd (own.map (·.2))) := by
  refine ⟨fun pins s σ H Q I h => ?_⟩
  rw [PySem.arm_eval_DictComp]
  refine dx_core hc hN I hi ok body hs h fun D C s' m H' I' q hn ⟨f0, f1, f2, f3, f4, f5⟩ => ⟨m, hn, fun h'' sb => ?_⟩
  exact ⟨.ref D, H', I'.turned (t' := s'.toks) (fun b o hb e => (sb.2 b hb).trans e) f0 f1 f3 f4 f5, rfl, q⟩
/-- name = {..} on one line, the name a local -/
theorem ps_setDx {i : Nat} {y : Str} {py : Pos} {kx vx tg iter : Expr} {ifs : List Expr} {scope : Scope} {own : List (Str × Nat)} {pos spos : Pos} {wi : TI} {g : TG} {tt : TT} {tk tv : TE} {sd : TD} (hc : X.calm = true) (hN : X.N.Nodup) (hy : X.N[i]? = some y) (hyl : X.env.scope.names.lookup y = some .local)
    (hsw : swapsWith (.DictComp kx vx [⟨tg, iter, ifs, 0⟩] scope pos) (some (.Name y py)) spos.line X.env = pure true) (hi : PI X tg iter wi) (ok : BlkOk X.N X.env.scope scope own)
    (body : ∀ (s : Shared) (H : Hp) (C : Addr) (cl : List (Str × Addr)) (fp : List Addr), PG (X.blk s H scope (compEnvC scope cl C X.env) fp) tg g ∧ PTs (X.blk s H scope (compEnvC scope cl C X.env) fp) ifs tt ∧ PE (X.blk s H scope (compEnvC scope cl C X.env) fp) kx tk ∧ PE (X.blk s H scope (compEnvC scope cl C X.env) fp) vx tv ∧ PD (X.blk s H scope (compEnvC scope cl C X.env) fp) sd)
    (hs : ∀ x, foldedSetIterable iter X.env x = pure x := by intro _; rfl) : PS X (.Assign [.Name y py] (.DictComp kx vx [⟨tg, iter, ifs, 0⟩] scope pos) spos) (tAsg (tDx wi g tt tk tv sd (own.map (·.2))) (gName i)) := by
  refine ⟨fun pins s σ H D I h => ?_⟩
  rw [exec_Assign_Name_used _ _ _ _ hsw]
  refine wpAny_bind (wpAny_standAt (wpAny_bind ?_))
  show wpAny _ X.A (do let _ ← comprehension (.DictComp kx vx [⟨tg, iter, ifs, 0⟩] scope pos) scope X.env (firstIterPos [⟨tg, iter, ifs, 0⟩] pos) newDict false (eval iter X.env) (some (assign (.Name y py) X.env))) _ _ s
  have h : tDx wi g tt tk tv sd (own.map (·.2)) σ H (fun x H1 => gName i x σ H1 D.nx) := h
  refine wpAny_bind (thn (dx_core (Qf := fun _ s' => SP X pins D .next s') hc hN I hi ok body hs h fun L C s' m H' I' q hn ⟨f0, f1, f2, f3, f4, f5⟩ => ?_) fun _ s' hq => wpAny_pure (wpAny_pure hq))
  show wpAny _ _ (assign (.Name y py) X.env (.ref L)) _ _ _
  refine wpAny_assign_Name (store_ok2 (v := V.ref L) I' hN hy (.inl hyl) rfl (fun s2 I2 ⟨a, sb, ha⟩ => ?_) (.inr hyl))
  have haC : C ≠ a := by
    rcases ha with z | z
    · rw [z]; exact f1
    · exact fun e => f4 y a z e.symm
  exact ⟨m, hn.sameBut sb haC, fun h3 sb3 => ⟨_, H', I2.turned (t' := s2.toks) (fun b o hb e => (sb3.2 b hb).trans e) f0 f1 f3 f4 f5, q⟩⟩
end

/-! the lite side -/
def cPut (n : Nat) (k v : Lm LV) : LS → LH → Option LH := fun l L => match k l L with
  | .ok x L4 => (match v l L4 with
    | .ok y L5 => (match L5[n]? with
      | some (.dct vv kvs) => if (dkey kvs x && Nat.blt kvs.length sizeLine) = true then some (L5.set n (.dct (vv + 1) (dput kvs x y))) else none
      | _ => none)
    | _ => none)
  | _ => none
def eDc (m : Lm LI) (g : Lg) (t : Lm Bool) (k v : Lm LV) (vs : List Nat) : Lm LV := fun l L => (m l L).bind fun it L1 =>
  match cLoop it (fun x L => cTurn g t (cPut L1.length k v) x (lwipe l vs) L) it.fuel 0 (L1 ++ [.dct 0 []]) with
  | some L2 => .ok (.ref L1.length) L2
  | none => .bad
def SdR (G : Gm) (w : World) (K : PySem.W.Frag) : TD := fun D y z H Q => ∃ μ L n vv kvs k x, HRel G w K μ L H ∧ μ[n]? = some D ∧ L[n]? = some (.dct vv kvs) ∧ VRel K μ H k y ∧ VRel K μ H x z ∧ dkey kvs k = true ∧ kvs.length < sizeLine ∧
  ∀ o', Le μ L H μ (L.set n (.dct (vv + 1) (dput kvs k x))) (upd H D (dX D o')) → HRel G w K μ (L.set n (.dct (vv + 1) (dput kvs k x))) (upd H D (dX D o')) → Q (upd H D (dX D o'))
theorem pd_of {X : Cx} {G : Gm} (hu : X.A.units + 64 < cLine) : PD X (SdR G X.w X.K) := ⟨fun pins s σ H D y z u r Q I ry rz h => by
  obtain ⟨μ, L, n, vv, kvs, k, x, hr, hD, hn, rk, rx, ok, hz, q⟩ := h
  exact ld_dictSet hu I hr hn hD rk ry ok rx rz hz fun s' o' I' le hr' => ⟨_, I', q o' le hr'⟩⟩
theorem DRel.empty {w : World} {K : PySem.W.Frag} {μ : List Addr} {H : Hp} : DRel w K μ H emptyD [] := ⟨⟨rfl, rfl, rfl⟩, ⟨#[], 0, rfl, Nat.zero_le _, .nil⟩, List.nodup_nil, .inl rfl⟩
section
variable {G : Gm} {w : World} {K : PySem.W.Frag} {W : WX} {σ : St} {μ : List Addr} {l : LS} {L : LH} {H : Hp}
theorem put_of {n : Nat} {D : Addr} {k v : Lm LV} {L2 : LH} {Nx : Hp → Prop} (hD : μ[n]? = some D) (s : SRel K μ H l σ) (h : HRel G w K μ L H) (o : cPut n k v l L = some L2)
    (hN : ∀ μ' H', Le μ L H μ' L2 H' → HRel G w K μ' L2 H' → Nx H') :
    TX (RV K) G w K W0 k σ H fun y H4 => TX (RV K) G w K W0 v σ H4 fun z H5 => SdR G w K D y z H5 Nx := by
  refine ⟨μ, l, L, s, h, ?_⟩
  unfold cPut at o
  cases ek : k l L with
  | ok x L4 =>
    rw [ek] at o
    dsimp only at o
    intro μ4 vk H4 le4 h4 rk
    refine ⟨μ4, l, L4, s.le le4, h4, ?_⟩
    cases ev : v l L4 with
    | ok y L5 =>
      rw [ev] at o
      dsimp only at o
      intro μ5 vy H5 le5 h5 ry
      split at o
      · rename_i vv kvs ha
        split at o
        · rename_i hz
          cases o
          rw [Bool.and_eq_true_iff] at hz
          exact ⟨μ5, L5, n, vv, kvs, x, y, h5, le5.get (le4.get hD), ha, VRel.le le5 _ rk, ry, hz.1, Nat.blt_eq.mp hz.2, fun o' le h' => hN μ5 _ ((le4.trans le5).trans le) h'⟩
        · cases o
      · cases o
    | ex x L4 => rw [ev] at o; cases o
    | bad => rw [ev] at o; cases o
  | ex x L4 => rw [ek] at o; cases o
  | bad => rw [ek] at o; cases o
theorem dc_of {wi : Lm LI} {g : Lg} {t : Lm Bool} {k v : Lm LV} {vs : List Nat} {Q : VK} (q : TX (RV K) G w K W (eDc wi g t k v vs) σ H Q) :
    tDx (TIx G w K W wi) (GcR G w K vs g) (TX RB G w K W0 t) (TX (RV K) G w K W0 k) (TX (RV K) G w K W0 v) (SdR G w K) vs σ H Q := by
  obtain ⟨μ, l, L, s, h, o⟩ := q
  refine ⟨μ, l, L, s, h, ?_⟩
  unfold eDc at o
  cases em : wi l L with
  | ex x L1 => rw [em] at o; exact o
  | bad => rw [em] at o; exact o
  | ok it L1 =>
    rw [em] at o
    intro μ1 H1 J le1 h1 mt D hD hm
    dsimp only [Rs.bind_ok] at o
    split at o
    · rename_i L2 el
      obtain ⟨le2, h2⟩ := h1.obj_new hD (o := dX D emptyD) (u := .dct 0 []) (fun _ z => nomatch z) fun μ' L' le => ⟨emptyD, upd_same, hm, DRel.empty⟩
      have hn : (μ1 ++ [D])[L1.length]? = some D := new_last (xs := L1) h1.len rfl
      refine ⟨Wk G w K it (fun x L => cTurn g t (cPut L1.length k v) x (lwipe l vs) L) L2 (μ1 ++ [D]) (L1 ++ [.dct 0 []]) (upd H1 D (dX D emptyD)), ⟨it.fuel, μ1 ++ [D], _, Le.refl _ _ _, h2, el⟩, fun i m H wk => ?_⟩
      have s3 : SRel K (μ1 ++ [D]) (upd H1 D (dX D emptyD)) l σ := (s.le le1).le le2
      refine wk_step (Qe := fun H => Q (.ref D) H) (Y := fun Nx x H' => GcR G w K vs g x (wipe σ vs) H' fun σ2 H2 => wipe σ2 vs = wipe σ vs ∧ TX RB G w K W0 t σ2 H2 fun b H3 => if b = true then _ else Nx H3) (mt.le le2) wk
        (fun μ H' le h => o μ (.ref D) H' ((le1.trans le2).trans le) h ⟨D, le.get hn, rfl⟩) fun μ L x v H' L3 Nx le h rv tn hN => ?_
      exact turn_at (s3.le le) h rv tn hN fun μ' l' L' σ' H'' le' s' h' o' => put_of (le'.get (le.get hn)) s' h' o' fun μ5 H5 le5 h5 => hN μ5 H5 (le'.trans le5) h5
    · exact o.elim
end
section
variable {X : Cx} {G : Gm} {W : WX} {pos : Pos}
theorem je_dc {kx vx tg iter : Expr} {ifs : List Expr} {scope : Scope} {own : List (Str × Nat)} {wi : Lm LI} {g : Lg} {t : Lm Bool} {k v : Lm LV} (hu : X.A.units + 64 < cLine) (hc : X.calm = true) (hN : X.N.Nodup) (hi : JI X G W tg iter wi) (ok : BlkOk X.N X.env.scope scope own)
    (hg : ∀ (s : Shared) (H : Hp) (C : Addr) (cl : List (Str × Addr)) (fp : List Addr), JGc (X.blk s H scope (compEnvC scope cl C X.env) fp) G (own.map (·.2)) tg g) (ht : ∀ (s : Shared) (H : Hp) (C : Addr) (cl : List (Str × Addr)) (fp : List Addr), JTs (X.blk s H scope (compEnvC scope cl C X.env) fp) G ifs t)
    (hk : ∀ (s : Shared) (H : Hp) (C : Addr) (cl : List (Str × Addr)) (fp : List Addr), JE (X.blk s H scope (compEnvC scope cl C X.env) fp) G W0 kx k) (he : ∀ (s : Shared) (H : Hp) (C : Addr) (cl : List (Str × Addr)) (fp : List Addr), JE (X.blk s H scope (compEnvC scope cl C X.env) fp) G W0 vx v) (hs : ∀ x, foldedSetIterable iter X.env x = pure x := by intro _; rfl) :
    JE X G W (.DictComp kx vx [⟨tg, iter, ifs, 0⟩] scope pos) (eDc wi g t k v (own.map (·.2))) := PE.imp (pe_dx (sd := SdR G X.w X.K) hc hN hi ok (fun s H C cl fp => ⟨hg s H C cl fp, ht s H C cl fp, hk s H C cl fp, he s H C cl fp, pd_of hu⟩) hs) fun _ _ _ => dc_of
theorem js_dc {i : Nat} {y : Str} {py spos : Pos} {kx vx tg iter : Expr} {ifs : List Expr} {scope : Scope} {own : List (Str × Nat)} {wi : Lm LI} {g : Lg} {t : Lm Bool} {k v : Lm LV} (hu : X.A.units + 64 < cLine) (hc : X.calm = true) (hN : X.N.Nodup) (hy : X.N[i]? = some y) (hyl : X.env.scope.names.lookup y = some .local)
    (hsw : swapsWith (.DictComp kx vx [⟨tg, iter, ifs, 0⟩] scope pos) (some (.Name y py)) spos.line X.env = pure true) (hi : JI X G W tg iter wi) (ok : BlkOk X.N X.env.scope scope own)
    (hg : ∀ (s : Shared) (H : Hp) (C : Addr) (cl : List (Str × Addr)) (fp : List Addr), JGc (X.blk s H scope (compEnvC scope cl C X.env) fp) G (own.map (·.2)) tg g) (ht : ∀ (s : Shared) (H : Hp) (C : Addr) (cl : List (Str × Addr)) (fp : List Addr), JTs (X.blk s H scope (compEnvC scope cl C X.env) fp) G ifs t)
    (hk : ∀ (s : Shared) (H : Hp) (C : Addr) (cl : List (Str × Addr)) (fp : List Addr), JE (X.blk s H scope (compEnvC scope cl C X.env) fp) G W0 kx k) (he : ∀ (s : Shared) (H : Hp) (C : Addr) (cl : List (Str × Addr)) (fp : List Addr), JE (X.blk s H scope (compEnvC scope cl C X.env) fp) G W0 vx v) (hs : ∀ x, foldedSetIterable iter X.env x = pure x := by intro _; rfl) :
    JS X G W (.Assign [.Name y py] (.DictComp kx vx [⟨tg, iter, ifs, 0⟩] scope pos) spos) (sAsg (gNm i) (eDc wi g t k v (own.map (·.2)))) :=
  PS.imp (ps_setDx (sd := SdR G X.w X.K) hc hN hy hyl hsw hi ok (fun s H C cl fp => ⟨hg s H C cl fp, ht s H C cl fp, hk s H C cl fp, he s H C cl fp, pd_of hu⟩) hs) fun D σ H ⟨μ, l, L, s, h, o⟩ => dc_of ((TX.thn (R := RV X.K) s h o).mono fun v H1 ⟨μ1, L1, x, le, s1, h1, r1, o1⟩ => o1 μ1 _ H1 (Le.refl _ _ _) h1 (s1.set r1))
theorem sw_trueD {kx vx : Expr} {gs : List Comprehension} {scope : Scope} {pos py : Pos} {y : Str} {l : Nat} {env : Env} (hk : env.scope.kind = .function) (hy : env.scope.names.lookup y = some .local) (hl : (py.line == pos.line) = true)
    (ha : (scope.names.any fun (n, k) => n == y && (k == .local || k == .cell)) = false) : swapsWith (.DictComp kx vx gs scope pos) (some (.Name y py)) l env = pure true := by
  have ky : env.kindOf y = some .local := hy
  have hb : env.blockKind = .function := by unfold Env.blockKind; rw [hk]; rfl
  unfold swapsWith
  simp only [hb, ky, ha, Expr.pos, hl]
  rfl
/-- {} -/
def eDnew : Lm LV := fun _ L => .ok (.ref L.length) (L ++ [.dct 0 []])
theorem je_dnew : JE X G W (.Dict [] [] pos) eDnew := ⟨fun pins s σ H Q I ⟨μ, l, L, sr, h, o⟩ => by
  have hn := I.hok.fresh (Nat.le_refl s.heap.objs.size)
  have hm : (s.heap.objs.size == sysModules) = false := beq_eq_false_iff_ne.mpr (Ne.symm (Nat.ne_of_lt I.big))
  obtain ⟨le2, h2⟩ := h.obj_new hn (o := dX s.heap.objs.size emptyD) (u := .dct 0 []) (fun _ z => nomatch z) fun μ' L' le => ⟨emptyD, upd_same, hm, DRel.empty⟩
  exact wpAny_Dict_empty ⟨.ref s.heap.objs.size, _, I.laid (a := s.heap.objs.size) (o := dX s.heap.objs.size emptyD) (t' := s.toks) (fun _ _ q => Heap.get?_push_of_some _ q) (Nat.le_refl _) (dX_ok (Heap.get?_push_size _ rfl)), rfl, o _ _ _ le2 h2 ⟨_, new_last (xs := L) h.len rfl, rfl⟩⟩⟩
end
end LT

set_option Elab.async false
set_option linter.all false
set_option autoImplicit false
set_option maxRecDepth 100000
set_option maxHeartbeats 4000000
namespace LT
open PySem PySem.Spec L2

/-! ### attributes by numbers -/
def attOf (ns : List Str) (i : Nat) : Str := match ns[i]? with
  | some x => x
  | none => ⟨Array.replicate (i + 1000) 0⟩
theorem attOf_inj {ns : List Str} (hn : ns.Nodup) (hl : (ns.all fun x : Str => Nat.blt x.cps.size 1000) = true) : ∀ i j, attOf ns i = attOf ns j → i = j := by
  have sz : ∀ (i : Nat) (x : Str), ns[i]? = some x → x.cps.size < 1000 := fun i x e => by
    have := List.all_eq_true.mp hl x (List.mem_of_getElem? e)
    exact Nat.blt_eq.mp this
  have big : ∀ i (x : Str), x = ⟨Array.replicate (i + 1000) 0⟩ → x.cps.size = i + 1000 := fun i x e => by subst e; simp
  intro i j h
  unfold attOf at h
  cases ei : ns[i]? with
  | some x =>
    rw [ei] at h
    cases ej : ns[j]? with
    | some y =>
      rw [ej] at h
      dsimp only at h
      subst h
      exact (List.getElem?_inj (List.getElem?_eq_some_iff.mp ei).1 hn).mp (ei.trans ej.symm)
    | none =>
      rw [ej] at h
      have := big j x h
      have := sz i x ei
      omega
  | none =>
    rw [ei] at h
    cases ej : ns[j]? with
    | some y =>
      rw [ej] at h
      have := big i y h.symm
      have := sz j y ej
      omega
    | none =>
      rw [ej] at h
      have h1 := big i _ rfl
      have h2 := big j ⟨Array.replicate (i + 1000) 0⟩ h
      omega
def fput (a : Nat) (y : LV) : List (Nat × LV) → List (Nat × LV)
  | [] => [(a, y)]
  | (b, x) :: r => if Nat.beq b a = true then (b, y) :: r else (b, x) :: fput a y r
def fget (a : Nat) : List (Nat × LV) → Option LV
  | [] => none
  | (b, x) :: r => if Nat.beq b a = true then some x else fget a r
section
variable {G : Gm} {K : PySem.W.Frag} {μ : List Addr} {H : Hp}
theorem nbeq {a b : Nat} : Nat.beq a b = true ↔ a = b := ⟨Nat.eq_of_beq_eq_true, fun e => by subst e; exact Nat.beq_refl a⟩
theorem frel_get {a : Nat} {y : LV} : ∀ {fs : List (Nat × LV)} {gs : List (Str × V)}, FRel G K μ H fs gs → fget a fs = some y → ∃ v, gs.lookup (G.att a) = some v ∧ VRel K μ H y v
  | [], _, _, e => by cases e
  | (b, x) :: fs, _, .cons (b := (g, u)) r rs, e => by
    obtain ⟨rg, rv⟩ := r
    dsimp only at rg rv
    unfold fget at e
    split at e
    · rename_i hb
      cases e
      rw [nbeq] at hb
      subst hb
      exact ⟨u, by rw [rg]; simp [List.lookup], rv⟩
    · rename_i hb
      obtain ⟨v, h1, h2⟩ := frel_get rs e
      refine ⟨v, ?_, h2⟩
      have : (G.att a == g) = false := beq_eq_false_iff_ne.mpr fun z => hb (nbeq.mpr (G.inj b a (rg.symm.trans z.symm)))
      simp only [List.lookup, this]
      exact h1
theorem frel_none {a : Nat} : ∀ {fs : List (Nat × LV)} {gs : List (Str × V)}, FRel G K μ H fs gs → fget a fs = none → gs.lookup (G.att a) = none
  | [], _, .nil, _ => rfl
  | (b, x) :: fs, _, .cons (b := (g, u)) r rs, e => by
    obtain ⟨rg, rv⟩ := r
    dsimp only at rg rv
    unfold fget at e
    split at e
    · cases e
    · rename_i hb
      have : (G.att a == g) = false := beq_eq_false_iff_ne.mpr fun z => hb (nbeq.mpr (G.inj b a (rg.symm.trans z.symm)))
      simp only [List.lookup, this]
      exact frel_none rs e
theorem frel_put {a : Nat} {y : LV} {v : V} (rv : VRel K μ H y v) : ∀ {fs : List (Nat × LV)} {gs : List (Str × V)}, FRel G K μ H fs gs → FRel G K μ H (fput a y fs) (putF (G.att a) v gs)
  | [], _, .nil => .cons ⟨rfl, rv⟩ .nil
  | (b, x) :: fs, _, .cons (b := (g, u)) r rs => by
    obtain ⟨rg, ru⟩ := r
    dsimp only at rg ru
    unfold fput putF
    by_cases hb : Nat.beq b a = true
    · have e := nbeq.mp hb
      rw [if_pos hb, if_pos (by rw [rg, e])]
      exact .cons ⟨rg, rv⟩ rs
    · rw [if_neg hb, if_neg fun z => hb (nbeq.mpr (G.inj b a (rg.symm.trans z)))]
      exact .cons ⟨rg, ru⟩ (frel_put rv rs)
theorem frel_len : ∀ {fs : List (Nat × LV)} {gs : List (Str × V)}, FRel G K μ H fs gs → gs.length = fs.length
  | [], _, .nil => rfl
  | _ :: _, _, .cons _ rs => by rw [List.length_cons, List.length_cons, frel_len rs]
end

/-! ### what a def promises -/
def FSp (G : Gm) (w : World) (K : PySem.W.Frag) (n : Nat) (f : List LV → LH → Rs LV) : Sp := fun vs H Q E => vs.length = n ∧ ∃ μ L xs, HRel G w K μ L H ∧ VRels K μ H xs vs ∧ Out (RV K) G w K (fun c d _ H => E c d H) [] Q μ L H (f xs L)
/-- a def: how it is called, what it does -/
def FnA (P : Program) (w : World) (K : PySem.W.Frag) (mg : Str → Option Value) (base : Heap) (G : Gm) (k : Nat) (fa : Addr) (f : List LV → LH → Rs LV) : Prop :=
  ∃ fd ps, Binds K fd ps [] ∧ (∀ xs L, f xs L ≠ .bad → xs.length = ps.length) ∧ FnOk P w K mg base (L2.CX P w) k fa fd ps (FSp G w K ps.length f)
/-- a def of the top -/
def FnG (P : Program) (w : World) (K : PySem.W.Frag) (mg : Str → Option Value) (base : Heap) (G : Gm) (k : Nat) (x : Str) (f : List LV → LH → Rs LV) : Prop :=
  ∃ fa, mg x = some (.ref fa) ∧ PySem.W.keepIn K (.ref fa) = true ∧ FnA P w K mg base G k fa f
theorem FnA.mono {P : Program} {w : World} {K : PySem.W.Frag} {mg : Str → Option Value} {base : Heap} {G : Gm} {k j : Nat} {fa : Addr} {f : List LV → LH → Rs LV} (F : FnA P w K mg base G k fa f) (h : k ≤ j) : FnA P w K mg base G j fa f :=
  let ⟨fd, ps, b, a, o⟩ := F
  ⟨fd, ps, b, a, o.mono h⟩
theorem FnG.mono {P : Program} {w : World} {K : PySem.W.Frag} {mg : Str → Option Value} {base : Heap} {G : Gm} {k j : Nat} {x : Str} {f : List LV → LH → Rs LV} (F : FnG P w K mg base G k x f) (h : k ≤ j) : FnG P w K mg base G j x f :=
  let ⟨fa, m, kp, o⟩ := F
  ⟨fa, m, kp, o.mono h⟩
def eCall (f : List LV → LH → Rs LV) (m : Lm (List LV)) : Lm LV := fun l L => (m l L).bind fun xs L1 => f xs L1
section
variable {G : Gm} {w : World} {K : PySem.W.Frag} {W : WX} {σ σ' : St} {μ : List Addr} {l : LS} {L : LH} {H : Hp}
theorem Out.wish {α β : Type} {R : Rl α β} {Q : β → Hp → Prop} {E : XK} {r : Rs α} (h : ∀ c d H, W c d σ H → E c d H) (o : Out R G w K W σ Q μ L H r) : Out R G w K (fun c d _ H => E c d H) σ' Q μ L H r := by
  cases r with
  | ok x L' => exact o
  | ex e L' => exact fun μ' H' c d a b x => h c d H' (o μ' H' c d a b x)
  | bad => exact o
theorem Out.nbad {α β : Type} {R : Rl α β} {Q : β → Hp → Prop} {r : Rs α} (o : Out R G w K W σ Q μ L H r) : r ≠ .bad := fun e => by
  subst e
  exact o
theorem FSp.mk {n : Nat} {f : List LV → LH → Rs LV} {xs : List LV} {vs : List V} {Q : VK} (ar : ∀ xs L, f xs L ≠ .bad → xs.length = n) (h : HRel G w K μ L H) (r : VRels K μ H xs vs) (o : Out (RV K) G w K W σ Q μ L H (f xs L)) : FSp G w K n f vs H Q (WE W σ) :=
  ⟨by rw [r.length]; exact ar _ _ o.nbad, μ, L, xs, h, r, o.wish fun c d H z => z⟩
end
section
variable {X : Cx} {G : Gm} {W : WX} {k : Nat} {x m : Str} {p pos apos : Pos} {e o : Expr} {es : List Expr} {f : List LV → LH → Rs LV}
/-- a def runs -/
theorem run_lt {pins : List (Addr × Obj)} {s : Shared} {σ : St} {H : Hp} {Q : VK} {us : List Value} {vs : List V} {fa : Addr} {μ : List Addr} {L : LH} {xs : List LV} (tk : Takes X W) (hr : Room k X.A) (F : FnA X.prog X.w X.K X.mg X.base G k fa f) (I : Inv X pins σ H s) (r : Vals vs us)
    (h : HRel G X.w X.K μ L H) (rx : VRels X.K μ H xs vs) (o : Out (RV X.K) G X.w X.K W σ Q μ L H (f xs L)) : wpAny (model X.prog X.w) X.A (call (.ref fa) us) (EP X pins σ Q) X.xe s := by
  obtain ⟨fd, ps, hb, ar, F⟩ := F
  exact run_fnS (E := WE W) F hr hb (passAt tk σ) I r (FSp.mk ar h rx o)
theorem je_call {ma : Lm (List LV)} (tk : Takes X W) (hr : Room k X.A) (hg : Gl X x) (F : FnG X.prog X.w X.K X.mg X.base G k x f) (ha : JA X G W (e :: es) ma) (hdb : (x == ("__debug__" : Str)) = false := by decide)
    (he : starEach (e :: es) X.env = (false, eval e X.env) :: starEach es X.env := by rfl) (hpl : (backTo pos (starEach es X.env)).any (·.1) = false := by rfl) : JE X G W (.Call (.Name x p) (e :: es) [] pos) (eCall f ma) := by
  obtain ⟨fa, hm, hk, F⟩ := F
  refine ⟨fun pins s σ H Q I ⟨μ, l, L, sr, h, o⟩ => ?_⟩
  refine wpAny_Call_Name_kw (ld_glob I hg hm ?_ hdb)
  refine PySem.W.callWith_K (h₀ := X.base) I.ok.mod.kin hk (thn (ha.run pos pins s σ H _ I (TX.bind (R := RVs X.K) sr h o)) fun us s1 ⟨vs, H1, I1, r, μ1, L1, xs, le, s1', h1, r1, o1⟩ => ⟨I1.kIn, ?_⟩) he hpl
  exact run_lt tk hr F I1 r h1 r1 o1
theorem je_call0 (tk : Takes X W) (hr : Room k X.A) (hg : Gl X x) (F : FnG X.prog X.w X.K X.mg X.base G k x f) (hdb : (x == ("__debug__" : Str)) = false := by decide) : JE X G W (.Call (.Name x p) [] [] pos) (eCall f aNil) := by
  obtain ⟨fa, hm, hk, F⟩ := F
  refine ⟨fun pins s σ H Q I ⟨μ, l, L, sr, h, o⟩ => ?_⟩
  refine wpAny_Call_Name_kw (ld_glob I hg hm ?_ hdb)
  exact PySem.W.callWith_K0 I.kIn hk (run_lt (us := []) (vs := []) (xs := []) tk hr F I .nil h rfl o)

/-! ### instances: attributes -/
/-- the classes' plain attributes, by numbers -/
def AtOk (K : PySem.W.Frag) (G : Gm) (na : Nat → Nat → Bool) : Prop := ∀ c a, na c a = true → Cls K (G.cls c) ∧ NoAttr K (G.cls c) (G.att a)
def eFld (na : Nat → Nat → Bool) (a : Nat) (mo : Lm LV) : Lm LV := fun l L => (mo l L).bind fun x L1 => match x with
  | .ref n => (match L1[n]? with
    | some (.obj c fs) => (match na c a, fget a fs with
      | true, some y => .ok y L1
      | _, _ => .bad)
    | _ => .bad)
  | _ => .bad
theorem je_fld {na : Nat → Nat → Bool} {a : Nat} {mo : Lm LV} {fn : Str} (A : AtOk X.K G na) (ho : JE X G W o mo) (ea : G.att a = fn := by rfl) (hb : attributeBase o fn X.env (eval o X.env) = eval o X.env := by rfl) : JE X G W (.Attribute o fn pos) (eFld na a mo) := by
  subst ea
  refine PE.imp (pe_fld ho hb) fun σ H Q ⟨μ, l, L, s, h, o⟩ => (TX.bind (R := RV X.K) s h o).mono fun v H1 ⟨μ1, L1, x, le, s1, h1, r1, o1⟩ => ?_
  dsimp only at o1
  split at o1
  · split at o1
    · rename_i c fs hn
      split at o1
      · rename_i y hna hf
        obtain ⟨b, hb, rfl⟩ := r1
        obtain ⟨dx, gs, hi, rf⟩ := h1.obj _ b _ hb hn
        obtain ⟨v, hv, rv⟩ := frel_get rf hf
        obtain ⟨c1, c2⟩ := A c a hna
        exact ⟨b, _, dx, gs, v, rfl, hi, c1, c2, hv, Out.here o1 h1 rv⟩
      · exact o1.elim
    · exact o1.elim
  · exact o1.elim
def sFldL (na : Nat → Nat → Bool) (a : Nat) (mo mv : Lm LV) : Ls := fun l L => (mv l L).thn l fun y L1 => (mo l L1).thn l fun x L2 => match x with
  | .ref n => (match L2[n]? with
    | some (.obj c fs) => if (na c a && Nat.blt fs.length 1000) = true then .nx l (L2.set n (.obj c (fput a y fs))) else .bad
    | _ => .bad)
  | _ => .bad
theorem js_fld {na : Nat → Nat → Bool} {a : Nat} {mo mv : Lm LV} {fn : Str} {value : Expr} {pos' : Pos} (A : AtOk X.K G na) (ho : JE X G W o mo) (hv : JE X G W value mv) (ea : G.att a = fn := by rfl) (hs : swapsWith value (some (.Attribute o fn pos')) pos.line X.env = pure false := by rfl) :
    JS X G W (.Assign [.Attribute o fn pos'] value pos) (sFldL na a mo mv) := by
  subst ea
  refine PS.imp (ps_fld ho hv hs) fun D σ H ⟨μ, l, L, s, h, o⟩ => (TX.thn (R := RV X.K) s h o).mono fun v H1 ⟨μ1, L1, y, le, s1, h1, r1, o1⟩ => (TX.thn (R := RV X.K) s1 h1 o1).mono fun u H2 ⟨μ2, L2, x, le2, s2, h2, r2, o2⟩ => ?_
  dsimp only at o2
  split at o2
  · split at o2
    · rename_i n _ c fs hn
      split at o2
      · rename_i hna
        rw [Bool.and_eq_true_iff] at hna
        obtain ⟨b, hb, rfl⟩ := r2
        obtain ⟨dx, gs, hi, rf⟩ := h2.obj _ b _ hb hn
        obtain ⟨c1, c2⟩ := A c a hna.1
        refine ⟨b, _, dx, gs, rfl, hi, c1, c2, by rw [frel_len rf]; exact Nat.blt_eq.mp hna.2, ?_⟩
        obtain ⟨le3, h3⟩ := h2.obj_set hb (o := .ins (G.cls c) dx (putF (G.att a) v gs)) (u := .obj c (fput a y fs)) (fun L' le' => ⟨dx, _, upd_same, (frel_put (VRel.le le2 y r1) rf).le le'⟩) (fun v' kvs e => by rw [hn] at e; cases e)
        exact o2 μ2 σ _ le3 h3 (s2.le le3)
      · exact o2.elim
    · exact o2.elim
  · exact o2.elim

/-! ### methods -/
abbrev MT := Nat → Option (List LV → LH → Rs LV)
def MtOk (P : Program) (w : World) (K : PySem.W.Frag) (mg : Str → Option Value) (base : Heap) (G : Gm) (k : Nat) (m : Str) (mt : MT) : Prop := ∀ c f, mt c = some f → Cls K (G.cls c) ∧ ∃ fa, Meth K (G.cls c) m fa ∧ FnA P w K mg base G k fa f
def eMeth (mt : MT) (a : Nat) (mo : Lm LV) (ma : Lm (List LV)) : Lm LV := fun l L => (mo l L).bind fun x L1 => match x with
  | .ref n => (match L1[n]? with
    | some (.obj c fs) => (match mt c, fget a fs with
      | some f, none => (ma l L1).bind fun xs L2 => f (.ref n :: xs) L2
      | _, _ => .bad)
    | _ => .bad)
  | _ => .bad
theorem je_meth {mt : MT} {a : Nat} {mo : Lm LV} {ma : Lm (List LV)} {pl : Sem Bool} (tk : Takes X W) (hr : Room k X.A) (M : MtOk X.prog X.w X.K X.mg X.base G k m mt) (ho : JE X G W o mo) (ha : JA X G W (e :: es) ma) (ea : G.att a = m := by rfl)
    (hst : starEach (e :: es) X.env = (false, eval e X.env) :: starEach es X.env := by rfl) (hpl : (backTo pos (starEach es X.env)).any (·.1) = false := by rfl)
    (ht : eval (.Call (.Attribute o m apos) (e :: es) [] pos) X.env = (do
      let ov ← eval o X.env
      standAt apos.atName
      let (f, first) ← holding [ov] (getMethod ov m pl)
      callWith pos f first (backTo pos (starEach (e :: es) X.env)) (backToKw pos (keywordEach [] X.env))) := by rfl) :
    JE X G W (.Call (.Attribute o m apos) (e :: es) [] pos) (eMeth mt a mo ma) := by
  refine ⟨fun pins s σ H Q I ⟨μ, l, L, sr, h, o⟩ => ?_⟩
  refine PySem.W.methodCall_KW (pl := pl) (thn (ho.run pins s σ H _ I (TX.bind (R := RV X.K) sr h o)) fun u s1 ⟨v, H1, I1, rv, μ1, L1, x, le, s1', h1, r1, o1⟩ => ?_) ht
  dsimp only at o1
  split at o1
  · split at o1
    · rename_i n _ c fs hn
      split at o1
      · rename_i f hmt hf
        obtain ⟨b, hb, rfl⟩ := r1
        obtain ⟨dx, gs, hi, rf⟩ := h1.obj _ b _ hb hn
        obtain ⟨c1, fa, hm, F⟩ := M c f hmt
        obtain rfl : u = Value.ref b := rv
        refine getmeth_ok I1 hi c1 hm (by rw [← ea]; exact frel_none rf hf) ?_
        refine PySem.W.callWith_K (first := [.ref b]) (h₀ := X.base) I.ok.mod.kin hm.kp (thn (ha.run pos pins s1 σ H1 _ I1 (TX.bind (R := RVs X.K) s1' h1 o1)) fun us s2 ⟨vs, H2, I2, r, μ2, L2, xs, le2, s2', h2, r2, o2⟩ => ⟨I2.kIn, ?_⟩) hst hpl
        exact run_lt (us := .ref b :: us) (vs := .ref b :: vs) (xs := .ref n :: xs) tk hr F I2 (.cons rfl r) h2 ⟨.ref b, vs, rfl, ⟨b, le2.get hb, rfl⟩, r2⟩ o2
      · exact o1.elim
    · exact o1.elim
  · exact o1.elim
theorem je_meth0 {mt : MT} {a : Nat} {mo : Lm LV} {pl : Sem Bool} (tk : Takes X W) (hr : Room k X.A) (M : MtOk X.prog X.w X.K X.mg X.base G k m mt) (ho : JE X G W o mo) (ea : G.att a = m := by rfl)
    (ht : eval (.Call (.Attribute o m apos) [] [] pos) X.env = (do
      let ov ← eval o X.env
      standAt apos.atName
      let (f, first) ← holding [ov] (getMethod ov m pl)
      callWith pos f first (backTo pos (starEach [] X.env)) (backToKw pos (keywordEach [] X.env))) := by rfl) :
    JE X G W (.Call (.Attribute o m apos) [] [] pos) (eMeth mt a mo aNil) := by
  refine ⟨fun pins s σ H Q I ⟨μ, l, L, sr, h, o⟩ => ?_⟩
  refine PySem.W.methodCall_KW (pl := pl) (thn (ho.run pins s σ H _ I (TX.bind (R := RV X.K) sr h o)) fun u s1 ⟨v, H1, I1, rv, μ1, L1, x, le, s1', h1, r1, o1⟩ => ?_) ht
  dsimp only at o1
  split at o1
  · split at o1
    · rename_i n _ c fs hn
      split at o1
      · rename_i f hmt hf
        obtain ⟨b, hb, rfl⟩ := r1
        obtain ⟨dx, gs, hi, rf⟩ := h1.obj _ b _ hb hn
        obtain ⟨c1, fa, hm, F⟩ := M c f hmt
        obtain rfl : u = Value.ref b := rv
        refine getmeth_ok I1 hi c1 hm (by rw [← ea]; exact frel_none rf hf) ?_
        exact PySem.W.callWith_K0 (first := [.ref b]) I1.kIn hm.kp (run_lt (us := [.ref b]) (vs := [.ref b]) (xs := [.ref n]) tk hr F I1 (.cons rfl .nil) h1 ⟨.ref b, [], rfl, ⟨b, hb, rfl⟩, rfl⟩ o1)
      · exact o1.elim
    · exact o1.elim
  · exact o1.elim
/-- properties -/
def PrOk (P : Program) (w : World) (K : PySem.W.Frag) (mg : Str → Option Value) (base : Heap) (G : Gm) (k : Nat) (m : Str) (mt : MT) : Prop := ∀ c f, mt c = some f → Cls K (G.cls c) ∧ ∃ pa fa, PropOf K (G.cls c) m pa fa ∧ FnA P w K mg base G k fa f
/-- what lets nothing out -/
def noEx : Rs LV → Rs LV
  | .ex _ _ => .bad
  | r => r
def eProp (mt : MT) (mo : Lm LV) : Lm LV := fun l L => (mo l L).bind fun x L1 => match x with
  | .ref n => (match L1[n]? with
    | some (.obj c fs) => (match mt c with
      | some f => noEx (f [.ref n] L1)
      | _ => .bad)
    | _ => .bad)
  | _ => .bad
theorem je_prop {mt : MT} {mo : Lm LV} (hr : Room (k + 1) X.A) (M : PrOk X.prog X.w X.K X.mg X.base G k m mt) (ho : JE X G W o mo) (hab : attributeBase o m X.env (eval o X.env) = eval o X.env := by rfl) : JE X G W (.Attribute o m pos) (eProp mt mo) := by
  refine ⟨fun pins s σ H Q I ⟨μ, l, L, sr, h, o⟩ => ?_⟩
  refine attr_of hab (thn (ho.run pins s σ H _ I (TX.bind (R := RV X.K) sr h o)) fun u s1 ⟨v, H1, I1, rv, μ1, L1, x, le, s1', h1, r1, o1⟩ => ?_)
  dsimp only at o1
  split at o1
  · split at o1
    · rename_i n _ c fs hn
      split at o1
      · rename_i f hmt
        obtain ⟨b, hb, rfl⟩ := r1
        obtain ⟨dx, gs, hi, rf⟩ := h1.obj _ b _ hb hn
        obtain ⟨c1, pa, fa, hm, fd, ps, bi, ar, F⟩ := M c f hmt
        obtain rfl : u = Value.ref b := rv
        refine getprop_ok (dvs := []) (ds := []) (E := E0) I1 hi c1 hm F hr bi .nil passL ?_
        refine FSp.mk (W := fun _ _ _ _ => False) (σ := []) ar h1 (xs := [.ref n]) ⟨.ref b, [], rfl, ⟨b, hb, rfl⟩, rfl⟩ ?_
        cases er : f [.ref n] L1 with
        | ok y L2 => rw [er] at o1; exact o1
        | ex y L2 => rw [er] at o1; exact o1.elim
        | bad => rw [er] at o1; exact o1.elim
      · exact o1.elim
    · exact o1.elim
  · exact o1.elim

/-! ### a new instance -/
def MkOk (P : Program) (w : World) (K : PySem.W.Frag) (mg : Str → Option Value) (base : Heap) (G : Gm) (k : Nat) (x : Str) (c : Nat) (f : List LV → LH → Rs LV) : Prop := mg x = some (.ref (G.cls c)) ∧ ∃ fa, Mk K (G.cls c) fa ∧ FnA P w K mg base G k fa f
def eMake (c : Nat) (f : List LV → LH → Rs LV) (m : Lm (List LV)) : Lm LV := fun l L => (m l L).bind fun xs L1 => (f (.ref L1.length :: xs) (L1 ++ [.obj c []])).bind fun r L2 => match r with
  | .non => .ok (.ref L1.length) L2
  | _ => .bad
theorem run_mk {pins : List (Addr × Obj)} {s : Shared} {σ : St} {H : Hp} {Q : VK} {us : List Value} {vs : List V} {c : Nat} {fa : Addr} {μ : List Addr} {L : LH} {xs : List LV} (tk : Takes X W) (hr : Room (k + 1) X.A) (M : Mk X.K (G.cls c) fa) (F : FnA X.prog X.w X.K X.mg X.base G k fa f) (I : Inv X pins σ H s) (r : Vals vs us)
    (h : HRel G X.w X.K μ L H) (rx : VRels X.K μ H xs vs) (o : Out (RV X.K) G X.w X.K W σ Q μ L H ((f (.ref L.length :: xs) (L ++ [.obj c []])).bind fun r L2 => match r with
      | .non => .ok (.ref L.length) L2
      | _ => .bad)) : wpAny (model X.prog X.w) X.A (call (.ref (G.cls c)) us) (EP X pins σ Q) X.xe s := by
  obtain ⟨fd, ps, hb, ar, F⟩ := F
  have n1 : H s.heap.objs.size = none := I.hok.fresh (Nat.le_refl _)
  have n2 : H (s.heap.objs.size + 1) = none := I.hok.fresh (Nat.le_succ _)
  have I2 := Inv.made (C := G.cls c) I
  obtain ⟨le1, h1⟩ := h.tup n1 (.own (s.heap.objs.size + 1))
  have n3 : upd H s.heap.objs.size (.own (s.heap.objs.size + 1)) (s.heap.objs.size + 1) = none := by rw [upd_ne (Nat.ne_of_gt (Nat.lt_succ_self _))]; exact n2
  obtain ⟨le2, h2⟩ := h1.obj_new n3 (o := .ins (G.cls c) s.heap.objs.size []) (u := .obj c []) (fun _ z => nomatch z) fun μ' L' le => ⟨_, [], upd_same, .nil⟩
  have hx : (μ ++ [s.heap.objs.size + 1])[L.length]? = some (s.heap.objs.size + 1) := new_last (xs := L) h.len rfl
  have le := le1.trans le2
  have r2 : Vals (V.ref (s.heap.objs.size + 1) :: vs) (Value.ref (s.heap.objs.size + 1) :: us) := .cons rfl r
  have sp : FSp G X.w X.K ps.length f (V.ref (s.heap.objs.size + 1) :: vs) (upd (upd H s.heap.objs.size (.own (s.heap.objs.size + 1))) (s.heap.objs.size + 1) (.ins (G.cls c) s.heap.objs.size [])) (fun v H2 => v = .non ∧ Q (.ref (s.heap.objs.size + 1)) H2) (WE W σ) := by
    refine FSp.mk ar h2 (xs := .ref L.length :: xs) ⟨_, _, rfl, ⟨_, hx, rfl⟩, VRels.le le xs rx⟩ ?_
    have o2 := Out.shift le o
    cases er : f (.ref L.length :: xs) (L ++ [.obj c []]) with
    | ok y L2 =>
      rw [er] at o2
      intro μ' v H' le' h' rv
      cases y with
      | non => exact ⟨rv, o2 μ' _ H' le' h' ⟨_, le'.get hx, rfl⟩⟩
      | _ => exact o2.elim
    | ex y L2 => rw [er] at o2; exact o2
    | bad => rw [er] at o2; exact o2
  have hl : (Value.ref (s.heap.objs.size + 1) :: us).length = ps.length := by rw [← r2.length]; exact sp.1
  have b := hb _ (Value.ref (s.heap.objs.size + 1) :: us) I2.kIn (by rw [List.append_nil]; exact hl)
  rw [List.append_nil] at b
  refine wpAny_call (make_map (f := fa) I.kIn M.makes M.init (beq_iff_eq.mp M.fn) (codeAny_mono (F.run _ X.stack _ _ ⟨Value.ref (s.heap.objs.size + 1) :: us, []⟩ (Value.ref (s.heap.objs.size + 1) :: us) _ _ _ (hr.make (G.cls c) us [])
    (I2.env0.make (G.cls c) us []) b r2 sp) fun r s' hq' => ?_))
  cases r with
  | error e => exact passAt tk σ pins _ _ e s' I2 hq'
  | ok fl =>
    cases fl with
    | ret u =>
      obtain ⟨v, H', I3, rv, ev, q3⟩ := I2.after hq'
      subst ev
      exact ⟨rv, ⟨V.ref (s.heap.objs.size + 1), H', I3, rfl, q3⟩⟩
    | next => exact False.elim hq'
    | brk => exact False.elim hq'
    | cont => exact False.elim hq'
theorem je_make {c : Nat} {ma : Lm (List LV)} (tk : Takes X W) (hr : Room (k + 1) X.A) (hg : Gl X x) (M : MkOk X.prog X.w X.K X.mg X.base G k x c f) (ha : JA X G W (e :: es) ma) (hdb : (x == ("__debug__" : Str)) = false := by decide)
    (he : starEach (e :: es) X.env = (false, eval e X.env) :: starEach es X.env := by rfl) (hpl : (backTo pos (starEach es X.env)).any (·.1) = false := by rfl) : JE X G W (.Call (.Name x p) (e :: es) [] pos) (eMake c f ma) := by
  obtain ⟨hm, fa, M, F⟩ := M
  refine ⟨fun pins s σ H Q I ⟨μ, l, L, sr, h, o⟩ => ?_⟩
  refine wpAny_Call_Name_kw (ld_glob I hg hm ?_ hdb)
  refine PySem.W.callWith_K (h₀ := X.base) I.ok.mod.kin M.kp (thn (ha.run pos pins s σ H _ I (TX.bind (R := RVs X.K) sr h o)) fun us s1 ⟨vs, H1, I1, r, μ1, L1, xs, le, s1', h1, r1, o1⟩ => ⟨I1.kIn, ?_⟩) he hpl
  exact run_mk tk hr M F I1 r h1 r1 o1
theorem je_make0 {c : Nat} (tk : Takes X W) (hr : Room (k + 1) X.A) (hg : Gl X x) (M : MkOk X.prog X.w X.K X.mg X.base G k x c f) (hdb : (x == ("__debug__" : Str)) = false := by decide) : JE X G W (.Call (.Name x p) [] [] pos) (eMake c f aNil) := by
  obtain ⟨hm, fa, M, F⟩ := M
  refine ⟨fun pins s σ H Q I ⟨μ, l, L, sr, h, o⟩ => ?_⟩
  refine wpAny_Call_Name_kw (ld_glob I hg hm ?_ hdb)
  exact PySem.W.callWith_K0 I.kIn M.kp (run_mk (us := []) (vs := []) (xs := []) tk hr M F I .nil h rfl o)
end

/-! ### a def's body -/
def lBody (n N : Nat) (m : Ls) : List LV → LH → Rs LV := fun xs L => if Nat.beq xs.length n = true then (match m (xs.map some ++ List.replicate (N - n) none) L with
  | .nx _ L' => .ok .non L'
  | .rt x L' => .ok x L'
  | .ex e _ L' => .ex e L'
  | _ => .bad) else .bad
theorem lBody_arity {n N : Nat} {m : Ls} : ∀ xs L, lBody n N m xs L ≠ .bad → xs.length = n := fun xs L h => by
  unfold lBody at h
  split at h
  · rename_i e
    exact Nat.eq_of_beq_eq_true e
  · exact absurd rfl h
theorem SRel.start {K : PySem.W.Frag} {μ : List Addr} {H : Hp} {N : List Str} {xs : List LV} {vs : List V} (r : VRels K μ H xs vs) : SRel K μ H (xs.map some ++ List.replicate (N.length - xs.length) none) (L2.start N vs) := by
  unfold L2.start
  rw [r.length]
  refine ⟨by simp [r.length], fun i x e => ?_⟩
  by_cases hi : i < xs.length
  · rw [List.getElem?_append_left (by simpa using hi)] at e
    rw [List.getElem?_map] at e
    cases ex : xs[i]? with
    | none => rw [ex] at e; cases e
    | some y =>
      rw [ex] at e
      cases e
      obtain ⟨v, hv, rv⟩ := r.get ex
      exact ⟨v, by rw [List.getElem?_append_left (by simpa [r.length] using hi), List.getElem?_map, hv]; rfl, rv⟩
  · rw [List.getElem?_append_right (by simpa using hi)] at e
    have := List.mem_of_getElem? e
    rw [List.mem_replicate] at this
    cases this.2
theorem fn_lt {P : Program} {w : World} {K : PySem.W.Frag} {mg : Str → Option Value} {base : Heap} {G : Gm} {x qual : Str} {params : Arguments} {body : List Stmt} {scope : Scope} {kws : List (Str × V)} {f : Addr} {fd : FuncData} {N ps : List Str} {k : Nat} {m : Ls} (F : FunD K x qual params body scope [] kws f fd) (S : FnScope N ps scope)
    (hb : ∀ (cdv : Value) (A : Around) (outer : List Env) (s : Shared) (H : Hp) (E : XK), Room k (cxOf (L2.CX P w) P w K mg base N qual scope f cdv A outer s H E).A → Takes (cxOf (L2.CX P w) P w K mg base N qual scope f cdv A outer s H E) (fun c d _ H => E c d H) → JB (cxOf (L2.CX P w) P w K mg base N qual scope f cdv A outer s H E) G (fun c d _ H => E c d H) body m) :
    FnOk P w K mg base (L2.CX P w) (k + 1) f fd ps (FSp G w K ps.length (lBody ps.length N.length m)) := by
  refine F.ok S (fun vs H Q E h => h.1) fun cdv A outer s H vs Q E hr ⟨hn, μ, L, xs, h, r, o⟩ => ⟨_, hb cdv A outer s H E hr (takes_of rfl rfl rfl rfl), ?_⟩
  have hx : xs.length = ps.length := lBody_arity _ _ o.nbad
  refine ⟨μ, xs.map some ++ List.replicate (N.length - xs.length) none, L, SRel.start r, h, ?_⟩
  unfold lBody at o
  rw [hx] at o ⊢
  rw [if_pos (Nat.beq_refl _)] at o
  cases er : m (xs.map some ++ List.replicate (N.length - ps.length) none) L with
  | nx l L' => rw [er] at o; exact fun μ' σ' H' a b c => o μ' .non H' a b rfl
  | rt x L' => rw [er] at o; exact o
  | bk l L' => rw [er] at o; exact o.elim
  | ct l L' => rw [er] at o; exact o.elim
  | ex e l L' => rw [er] at o; exact fun μ' σ' H' c d a b _ x => o μ' H' c d a b x
  | bad => rw [er] at o; exact o
end LT

set_option Elab.async false
set_option linter.all false
set_option autoImplicit false
set_option maxRecDepth 100000
set_option maxHeartbeats 4000000
namespace LT
open PySem PySem.Spec L2

/-! ### calls of built-in functions -/
abbrev OpN := List LV → LH → Option (LV × LH)
def CrR (G : Gm) (w : World) (K : PySem.W.Frag) (r : OpN) : List V → Hp → VK → Prop := fun vs H Q => ∃ μ L xs, HRel G w K μ L H ∧ VRels K μ H xs vs ∧ OutO (RV K) G w K Q μ L H (r xs L)
abbrev JCall (X : Cx) (G : Gm) (f : Value) (r : OpN) : Prop := CallR X f (CrR G X.w X.K r)
def eB (r : OpN) (ma : Lm (List LV)) : Lm LV := fun l L => (ma l L).bind fun xs L1 => ofO (r xs L1)
section
variable {X : Cx} {G : Gm} {W : WX} {x : Str} {p pos : Pos} {e : Expr} {es : List Expr} {id T : String} {r : OpN} {ma : Lm (List LV)}
theorem tcb_of {K : PySem.W.Frag} {w : World} {σ : St} {H : Hp} {Q : VK} (q : TX (RV K) G w K W (eB r ma) σ H Q) : tCB (CrR G w K r) (TX (RVs K) G w K W ma) σ H Q := by
  obtain ⟨μ, l, L, s, h, o⟩ := q
  exact (TX.bind (R := RVs K) s h o).mono fun vs H1 ⟨μ1, L1, xs, le, s1, h1, r1, o1⟩ => ⟨μ1, L1, xs, h1, r1, OutO.of o1⟩
theorem je_callB (hc : JCall X G (.builtin id) r) (hg : Gl X x) (hm : X.mg x = none) (hv : bootBuiltins x = some (.builtin id)) (ha : JA X G W (e :: es) ma) (hn : x ≠ "__name__" := by decide) (hdb : (x == ("__debug__" : Str)) = false := by decide)
    (he : starEach (e :: es) X.env = (false, eval e X.env) :: starEach es X.env := by rfl) (hpl : (backTo pos (starEach es X.env)).any (·.1) = false := by rfl) : JE X G W (.Call (.Name x p) (e :: es) [] pos) (eB r ma) :=
  PE.imp (pe_callB hc hg hm hv ha hn hdb he hpl) fun _ _ _ => tcb_of
theorem je_callTy (hc : JCall X G (.type T) r) (hg : Gl X x) (hm : X.mg x = none) (hv : bootBuiltins x = some (.type T)) (ha : JA X G W (e :: es) ma) (hn : x ≠ "__name__" := by decide) (hdb : (x == ("__debug__" : Str)) = false := by decide)
    (he : starEach (e :: es) X.env = (false, eval e X.env) :: starEach es X.env := by rfl) (hpl : (backTo pos (starEach es X.env)).any (·.1) = false := by rfl) : JE X G W (.Call (.Name x p) (e :: es) [] pos) (eB r ma) :=
  PE.imp (pe_callTy hc hg hm hv ha hn hdb he hpl) fun _ _ _ => tcb_of
end

/-! ### a dict's keys and values, in a row -/
section
variable {w : World} {K : PySem.W.Frag} {μ : List Addr} {H : Hp}
theorem drel_keys : ∀ {kvs : List (LV × LV)} {es : List DictEntry}, Paired (ERel w K μ H) kvs es → ∃ vs, VRels K μ H (kvs.map (·.1)) vs ∧ Vals vs (es.map (·.key))
  | [], _, .nil => ⟨[], rfl, .nil⟩
  | p :: kvs, _, .cons (b := e) r rs => by
    obtain ⟨⟨k, rk, ru⟩, _⟩ := r
    obtain ⟨vs, h1, h2⟩ := drel_keys rs
    exact ⟨k :: vs, ⟨k, vs, rfl, rk, h1⟩, .cons ru h2⟩
theorem drel_vals : ∀ {kvs : List (LV × LV)} {es : List DictEntry}, Paired (ERel w K μ H) kvs es → ∃ vs, VRels K μ H (kvs.map (·.2)) vs ∧ Vals vs (es.map (·.val))
  | [], _, .nil => ⟨[], rfl, .nil⟩
  | p :: kvs, _, .cons (b := e) r rs => by
    obtain ⟨_, ⟨k, rk, ru⟩, _⟩ := r
    obtain ⟨vs, h1, h2⟩ := drel_vals rs
    exact ⟨k :: vs, ⟨k, vs, rfl, rk, h1⟩, .cons ru h2⟩
theorem items_keys {es : Array DictEntry} {acc : Array Value} (it : ItemsOf (fun i v => ∃ en : DictEntry, es[i]? = some en ∧ v = en.key) acc es.size) : acc.toList = es.toList.map (·.key) := by
  apply List.ext_getElem?
  intro j
  rw [List.getElem?_map]
  cases hj : acc.toList[j]? with
  | none =>
    have h1 := List.getElem?_eq_none_iff.mp hj
    rw [List.getElem?_eq_none (by rw [Array.length_toList] at h1 ⊢; rw [← it.1]; exact h1)]
    rfl
  | some v =>
    obtain ⟨en, hen, hv⟩ := it.2 j v (by rw [← Array.getElem?_toList]; exact hj)
    rw [Array.getElem?_toList, hen]
    exact congrArg some hv
end
/-- what list(x) takes: a tuple, a list, a dict's keys -/
def seqOf (L : LH) : LV → Option (List LV)
  | .tup xs => some xs
  | .ref n => match L[n]? with
    | some (.lst xs) => some xs
    | some (.fz xs) => some xs
    | some (.dct _ kvs) => some (kvs.map (·.1))
    | _ => none
  | _ => none
def rListL : OpN
  | [x], L => match seqOf L x with
    | some xs => some (.ref L.length, L ++ [.lst xs])
    | none => none
  | _, _ => none
section
variable {X : Cx} {G : Gm}
theorem jc_list (hc : X.calm = true) : JCall X G (.type "list") rListL := by
  intro pins s σ H xs us Q I r h
  obtain ⟨μ, L, as, hr, rs, o⟩ := h
  unfold rListL at o
  split at o
  · rename_i x
    obtain ⟨v, q, rfl, rv, rfl⟩ := rs
    split at o
    · rename_i ys hs
      cases x with
      | tup zs =>
        cases hs
        obtain ⟨a, vs, rfl, sq, rv⟩ := rv
        exact call_list_of pins s σ H _ us Q I r ⟨a, vs, rfl, .inr sq, fun p hp => OutO.lst o hr rv p hp⟩
      | ref n =>
        obtain ⟨a, ha, rfl⟩ := rv
        unfold seqOf at hs
        dsimp only at hs
        cases hn : L[n]? with
        | none => rw [hn] at hs; cases hs
        | some ob =>
          rw [hn] at hs
          cases ob with
          | lst zs =>
            cases hs
            obtain ⟨a', vs, ha', sq, rv⟩ := hr.lst (n := n) (xs := ys) (by unfold lstAt; rw [hn])
            rw [ha] at ha'
            cases ha'
            exact call_list_of pins s σ H _ us Q I r ⟨a, vs, rfl, .inl sq, fun p hp => OutO.lst o hr rv p hp⟩
          | fz zs =>
            cases hs
            obtain ⟨a', vs, ha', sq, rv⟩ := hr.lst (n := n) (xs := ys) (by unfold lstAt; rw [hn])
            rw [ha] at ha'
            cases ha'
            exact call_list_of pins s σ H _ us Q I r ⟨a, vs, rfl, .inl sq, fun p hp => OutO.lst o hr rv p hp⟩
          | dct vv kvs =>
            cases hs
            obtain ⟨ob, ho, hm, d⟩ := dct_of hr hn ha
            obtain ⟨es, ep, hd, hz, pr⟩ := d.es
            obtain ⟨u, rfl, rx⟩ := r.one
            cases rx
            obtain ⟨vs, rk, rv⟩ := drel_keys pr
            refine PySem.W.kdl_call (kdl_raw hm d.ex hd) (I.ok.hd hc) (dX_at I.hok ho) hz fun h' tk acc' c' kp e it => ?_
            have ea := items_keys it
            have hl : vs.length ≤ sizeLine := by rw [rv.length, List.length_map, Array.length_toList]; exact hz
            refine ⟨.ref s.heap.objs.size, _, I.laid (t' := tk) (o := .lst vs) kp (Nat.le_refl _) ⟨hl, acc'.toList, c', by rw [ea]; exact rv, by rw [Array.toArray_toList]; exact e⟩, rfl, OutO.lst o hr rk _ (I.hok.fresh (Nat.le_refl _))⟩
          | obj c fs => cases hs
      | _ => cases hs
    · exact o.elim
  · exact o.elim
def rTupL : OpN
  | [.tup xs], L => some (.tup xs, L)
  | [.ref n], L => match lstAt L n with
    | some xs => some (.tup xs, L)
    | none => none
  | _, _ => none
theorem jc_tuple : JCall X G (.type "tuple") rTupL := by
  intro pins s σ H xs us Q I r h
  obtain ⟨μ, L, as, hr, rs, o⟩ := h
  unfold rTupL at o
  split at o
  · obtain ⟨v, q, rfl, rv, rfl⟩ := rs
    have rv0 := rv
    obtain ⟨a, vs, rfl, sq, rv⟩ := rv
    exact call_tuple_of pins s σ H _ us Q I r ⟨a, vs, rfl, .inr ⟨sq, o.here hr rv0⟩⟩
  · split at o
    · rename_i hl
      obtain ⟨v, q, rfl, ⟨a, ha, rfl⟩, rfl⟩ := rs
      obtain ⟨a', vs, ha', sq, rv⟩ := hr.lst hl
      rw [ha] at ha'
      cases ha'
      exact call_tuple_of pins s σ H _ us Q I r ⟨a, vs, rfl, .inl ⟨sq, fun p hp => OutO.tup o hr rv p hp⟩⟩
    · exact o.elim
  · exact o.elim
/-- len -/
def rLenL : OpN
  | [.tup xs], L => some (.int xs.length, L)
  | [.str z], L => if z.length ≤ sizeLine then some (.int z.length, L) else none
  | [.ref n], L => match L[n]? with
    | some (.lst xs) => some (.int xs.length, L)
    | some (.fz xs) => some (.int xs.length, L)
    | some (.dct _ kvs) => some (.int kvs.length, L)
    | _ => none
  | _, _ => none
theorem jc_len : JCall X G (.builtin "len") rLenL := by
  intro pins s σ H xs us Q I r h
  obtain ⟨μ, L, as, hr, rs, o⟩ := h
  have hl := line63
  unfold rLenL at o
  split at o
  · obtain ⟨v, q, rfl, ⟨a, vs, rfl, sq, rv⟩, rfl⟩ := rs
    refine call_len pins s σ H _ us Q I r ⟨_, vs.length, rfl, .inr ⟨vs, sq, rfl⟩, ?_⟩
    rw [rv.length]
    exact o.here hr rfl
  · split at o
    · rename_i hz
      obtain ⟨v, q, rfl, rv, rfl⟩ := rs
      cases rv
      exact call_len pins s σ H _ us Q I r ⟨_, _, rfl, ⟨hz, rfl⟩, o.here hr rfl⟩
    · exact o.elim
  · obtain ⟨v, q, rfl, ⟨a, ha, rfl⟩, rfl⟩ := rs
    rename_i n
    cases hn : L[n]? with
    | none => rw [hn] at o; exact o.elim
    | some ob =>
      rw [hn] at o
      cases ob with
      | lst zs =>
        obtain ⟨a', vs, ha', sq, rv⟩ := hr.lst (n := n) (xs := zs) (by unfold lstAt; rw [hn])
        rw [ha] at ha'
        cases ha'
        refine call_len pins s σ H _ us Q I r ⟨_, vs.length, rfl, .inl ⟨vs, sq, rfl⟩, ?_⟩
        rw [rv.length]
        exact o.here hr rfl
      | fz zs =>
        obtain ⟨a', vs, ha', sq, rv⟩ := hr.lst (n := n) (xs := zs) (by unfold lstAt; rw [hn])
        rw [ha] at ha'
        cases ha'
        refine call_len pins s σ H _ us Q I r ⟨_, vs.length, rfl, .inl ⟨vs, sq, rfl⟩, ?_⟩
        rw [rv.length]
        exact o.here hr rfl
      | dct vv kvs =>
        obtain ⟨ob, ho, hm, d⟩ := dct_of hr hn ha
        obtain ⟨u, rfl, rx⟩ := r.one
        cases rx
        have fin : ∀ k, k = kvs.length → ∀ tk t, EP X pins σ Q (.int (k : Nat) t) { s with toks := tk } := fun k e tk t => ⟨.int kvs.length, H, I.tok tk, ⟨t, by rw [e]⟩, o.here hr rfl⟩
        have hlk : kvs.length ≤ sizeLine := by
          obtain ⟨es, ep, hd, hz, pr⟩ := d.es
          rw [pr.length, Array.length_toList]
          exact hz
        rcases d.kd with t | t
        · obtain ⟨ys, dd, pt, hx⟩ := d.tup I ho t
          have e := pt.length
          exact call_len_dictH hm dd (by omega) (fin _ e.symm _ _)
        · obtain ⟨ys, dd, pt, hx⟩ := d.leaf I ho t
          have e := pt.length
          exact call_len_dict hm dd (by omega) (fin _ e.symm _ _)
      | obj c fs => exact o.elim
  · exact o.elim
/-- all, any of bools -/
def blsOf : List LV → Option (List Bool)
  | [] => some []
  | .bl b :: r => match blsOf r with
    | some bs => some (b :: bs)
    | none => none
  | _ => none
theorem blsOf_rel {K : PySem.W.Frag} {μ : List Addr} {H : Hp} : ∀ {xs : List LV} {bs : List Bool} {vs : List V}, blsOf xs = some bs → VRels K μ H xs vs → vs = bs.map V.bl
  | [], bs, vs, e, r => by cases e; cases r; rfl
  | .bl b :: xs, bs, vs, e, r => by
    unfold blsOf at e
    cases h : blsOf xs with
    | none => rw [h] at e; cases e
    | some cs =>
      rw [h] at e
      cases e
      obtain ⟨v, q, rfl, rv, rr⟩ := r
      cases rv
      rw [blsOf_rel h rr]
      rfl
  | .non :: _, _, _, e, _ => by cases e
  | .int _ :: _, _, _, e, _ => by cases e
  | .str _ :: _, _, _, e, _ => by cases e
  | .tup _ :: _, _, _, e, _ => by cases e
  | .ref _ :: _, _, _, e, _ => by cases e
def rAllL : OpN
  | [.ref n], L => match lstAt L n with
    | some xs => (match blsOf xs with
      | some bs => some (.bl (bs.all id), L)
      | none => none)
    | none => none
  | _, _ => none
def rAnyL : OpN
  | [.ref n], L => match lstAt L n with
    | some xs => (match blsOf xs with
      | some bs => some (.bl (bs.any id), L)
      | none => none)
    | none => none
  | _, _ => none
theorem jc_all (hc : X.calm = true) : JCall X G (.builtin "all") rAllL := by
  intro pins s σ H xs us Q I r h
  obtain ⟨μ, L, as, hr, rs, o⟩ := h
  unfold rAllL at o
  split at o
  · split at o
    · rename_i hl
      split at o
      · rename_i hb
        obtain ⟨v, q, rfl, ⟨a, ha, rfl⟩, rfl⟩ := rs
        obtain ⟨a', vs, ha', sq, rv⟩ := hr.lst hl
        rw [ha] at ha'
        cases ha'
        rw [blsOf_rel hb rv] at sq
        exact cr_all hc pins s σ H _ us Q I r ⟨a, _, rfl, sq, o.here hr rfl⟩
      · exact o.elim
    · exact o.elim
  · exact o.elim
theorem jc_any (hc : X.calm = true) : JCall X G (.builtin "any") rAnyL := by
  intro pins s σ H xs us Q I r h
  obtain ⟨μ, L, as, hr, rs, o⟩ := h
  unfold rAnyL at o
  split at o
  · split at o
    · rename_i hl
      split at o
      · rename_i hb
        obtain ⟨v, q, rfl, ⟨a, ha, rfl⟩, rfl⟩ := rs
        obtain ⟨a', vs, ha', sq, rv⟩ := hr.lst hl
        rw [ha] at ha'
        cases ha'
        rw [blsOf_rel hb rv] at sq
        exact cr_any hc pins s σ H _ us Q I r ⟨a, _, rfl, sq, o.here hr rfl⟩
      · exact o.elim
    · exact o.elim
  · exact o.elim
/-- ints in a row -/
def intsOf : List LV → Option (List Int)
  | [] => some []
  | .int b :: r => match intsOf r with
    | some bs => some (b :: bs)
    | none => none
  | _ => none
theorem intsOf_rel {K : PySem.W.Frag} {μ : List Addr} {H : Hp} : ∀ {xs : List LV} {bs : List Int} {vs : List V}, intsOf xs = some bs → VRels K μ H xs vs → vs = bs.map V.int
  | [], bs, vs, e, r => by cases e; cases r; rfl
  | .int b :: xs, bs, vs, e, r => by
    unfold intsOf at e
    cases h : intsOf xs with
    | none => rw [h] at e; cases e
    | some cs =>
      rw [h] at e
      cases e
      obtain ⟨v, q, rfl, rv, rr⟩ := r
      cases rv
      rw [intsOf_rel h rr]
      rfl
  | .non :: _, _, _, e, _ => by cases e
  | .bl _ :: _, _, _, e, _ => by cases e
  | .str _ :: _, _, _, e, _ => by cases e
  | .tup _ :: _, _, _, e, _ => by cases e
  | .ref _ :: _, _, _, e, _ => by cases e
def maxI : Int → List Int → Int
  | m, [] => m
  | m, x :: r => maxI (if m < x then x else m) r
def minI : Int → List Int → Int
  | m, [] => m
  | m, x :: r => minI (if x < m then x else m) r
theorem maxI_is : ∀ (r : List Int) (m : Int), (maxI m r = m ∨ maxI m r ∈ r) ∧ m ≤ maxI m r ∧ ∀ y ∈ r, y ≤ maxI m r
  | [], m => ⟨.inl rfl, Int.le_refl _, fun _ h => by cases h⟩
  | x :: r, m => by
    unfold maxI
    obtain ⟨a, b, c⟩ := maxI_is r (if m < x then x else m)
    refine ⟨?_, ?_, fun y hy => ?_⟩
    · rcases a with a | a
      · rw [a]
        split
        · exact .inr List.mem_cons_self
        · exact .inl rfl
      · exact .inr (List.mem_cons_of_mem _ a)
    · refine Int.le_trans ?_ b
      split <;> omega
    · rcases List.mem_cons.mp hy with z | z
      · subst z
        refine Int.le_trans ?_ b
        split <;> omega
      · exact c y z
theorem minI_is : ∀ (r : List Int) (m : Int), (minI m r = m ∨ minI m r ∈ r) ∧ minI m r ≤ m ∧ ∀ y ∈ r, minI m r ≤ y
  | [], m => ⟨.inl rfl, Int.le_refl _, fun _ h => by cases h⟩
  | x :: r, m => by
    unfold minI
    obtain ⟨a, b, c⟩ := minI_is r (if x < m then x else m)
    refine ⟨?_, ?_, fun y hy => ?_⟩
    · rcases a with a | a
      · rw [a]
        split
        · exact .inr List.mem_cons_self
        · exact .inl rfl
      · exact .inr (List.mem_cons_of_mem _ a)
    · refine Int.le_trans b ?_
      split <;> omega
    · rcases List.mem_cons.mp hy with z | z
      · subst z
        refine Int.le_trans b ?_
        split <;> omega
      · exact c y z
def rMaxL : OpN
  | [.ref n], L => match lstAt L n with
    | some xs => (match intsOf xs with
      | some (m :: r) => some (.int (maxI m r), L)
      | _ => none)
    | none => none
  | [.int i, .int j], L => some (.int (if j > i then j else i), L)
  | _, _ => none
theorem jc_max (hc : X.calm = true) : JCall X G (.builtin "max") rMaxL := by
  intro pins s σ H xs us Q I r h
  obtain ⟨μ, L, as, hr, rs, o⟩ := h
  unfold rMaxL at o
  split at o
  · split at o
    · rename_i hl
      split at o
      · rename_i m ns hb
        obtain ⟨v, q, rfl, ⟨a, ha, rfl⟩, rfl⟩ := rs
        obtain ⟨a', vs, ha', sq, rv⟩ := hr.lst hl
        rw [ha] at ha'
        cases ha'
        rw [intsOf_rel hb rv] at sq
        refine cr_max hc pins s σ H _ us Q I r ⟨a, _, rfl, sq, Nat.succ_pos _, fun z hz hle => ?_⟩
        obtain ⟨h1, h2, h3⟩ := maxI_is ns m
        have : z = maxI m ns := by
          have e1 : z ≤ maxI m ns := by
            rcases List.mem_cons.mp hz with e | e
            · rw [e]; exact h2
            · exact h3 z e
          have e2 : maxI m ns ≤ z := hle _ (by
            rcases h1 with e | e
            · rw [e]; exact List.mem_cons_self
            · exact List.mem_cons_of_mem _ e)
          omega
        subst this
        exact o.here hr rfl
      · exact o.elim
    · exact o.elim
  · obtain ⟨v, q, rfl, rv, v2, q2, rfl, rv2, rfl⟩ := rs
    cases rv
    cases rv2
    exact call_max2 hc pins s σ H _ us Q I r ⟨_, _, rfl, o.here hr rfl⟩
  · exact o.elim
def rMinL : OpN
  | [.ref n], L => match lstAt L n with
    | some xs => (match intsOf xs with
      | some (m :: r) => some (.int (minI m r), L)
      | _ => none)
    | none => none
  | [.int i, .int j], L => some (.int (if j < i then j else i), L)
  | _, _ => none
theorem jc_min (hc : X.calm = true) : JCall X G (.builtin "min") rMinL := by
  intro pins s σ H xs us Q I r h
  obtain ⟨μ, L, as, hr, rs, o⟩ := h
  unfold rMinL at o
  split at o
  · split at o
    · rename_i hl
      split at o
      · rename_i m ns hb
        obtain ⟨v, q, rfl, ⟨a, ha, rfl⟩, rfl⟩ := rs
        obtain ⟨a', vs, ha', sq, rv⟩ := hr.lst hl
        rw [ha] at ha'
        cases ha'
        rw [intsOf_rel hb rv] at sq
        refine cr_min hc pins s σ H _ us Q I r ⟨a, _, rfl, sq, Nat.succ_pos _, fun z hz hle => ?_⟩
        obtain ⟨h1, h2, h3⟩ := minI_is ns m
        have : z = minI m ns := by
          have e1 : minI m ns ≤ z := by
            rcases List.mem_cons.mp hz with e | e
            · rw [e]; exact h2
            · exact h3 z e
          have e2 : z ≤ minI m ns := hle _ (by
            rcases h1 with e | e
            · rw [e]; exact List.mem_cons_self
            · exact List.mem_cons_of_mem _ e)
          omega
        subst this
        exact o.here hr rfl
      · exact o.elim
    · exact o.elim
  · obtain ⟨v, q, rfl, rv, v2, q2, rfl, rv2, rfl⟩ := rs
    cases rv
    cases rv2
    exact call_min2 hc pins s σ H _ us Q I r ⟨_, _, rfl, o.here hr rfl⟩
  · exact o.elim
def rSumL : OpN
  | [.ref n], L => match lstAt L n with
    | some xs => (match intsOf xs with
      | some ns => some (.int ns.sum, L)
      | none => none)
    | none => none
  | _, _ => none
theorem jc_sum (hc : X.calm = true) : JCall X G (.builtin "sum") rSumL := by
  intro pins s σ H xs us Q I r h
  obtain ⟨μ, L, as, hr, rs, o⟩ := h
  unfold rSumL at o
  split at o
  · split at o
    · rename_i hl
      split at o
      · rename_i hb
        obtain ⟨v, q, rfl, ⟨a, ha, rfl⟩, rfl⟩ := rs
        obtain ⟨a', vs, ha', sq, rv⟩ := hr.lst hl
        rw [ha] at ha'
        cases ha'
        rw [intsOf_rel hb rv] at sq
        exact cr_sum hc pins s σ H _ us Q I r ⟨a, _, rfl, sq, o.here hr rfl⟩
      · exact o.elim
    · exact o.elim
  · exact o.elim
end
end LT

set_option Elab.async false
set_option linter.all false
set_option autoImplicit false
set_option maxRecDepth 100000
set_option maxHeartbeats 4000000
namespace LT
open PySem PySem.Spec L2

/-! ### sorting, plain -/
section
variable {α : Type}
def ins (le : α → α → Bool) (x : α) : List α → List α
  | [] => [x]
  | y :: r => if le x y = true then x :: y :: r else y :: ins le x r
def isort (le : α → α → Bool) : List α → List α
  | [] => []
  | x :: r => ins le x (isort le r)
theorem ins_perm (le : α → α → Bool) (x : α) : ∀ l, (ins le x l).Perm (x :: l)
  | [] => .refl _
  | y :: r => by
    unfold ins
    split
    · exact .refl _
    · exact ((ins_perm le x r).cons y).trans (.swap x y r)
theorem isort_perm (le : α → α → Bool) : ∀ l, (isort le l).Perm l
  | [] => .refl _
  | x :: r => (ins_perm le x _).trans ((isort_perm le r).cons x)
theorem ins_sorted {le : α → α → Bool} (tot : ∀ a b, le a b = true ∨ le b a = true) (tr : ∀ a b c, le a b = true → le b c = true → le a c = true) (x : α) : ∀ {l : List α}, l.Pairwise (fun a b => le a b = true) → (ins le x l).Pairwise fun a b => le a b = true
  | [], _ => by unfold ins; simp
  | y :: r, h => by
    unfold ins
    obtain ⟨h1, h2⟩ := List.pairwise_cons.mp h
    split
    · rename_i hl
      refine List.pairwise_cons.mpr ⟨fun z hz => ?_, h⟩
      rcases List.mem_cons.mp hz with e | e
      · rw [e]; exact hl
      · exact tr x y z hl (h1 z e)
    · rename_i hl
      have hyx : le y x = true := (tot x y).resolve_left hl
      refine List.pairwise_cons.mpr ⟨fun z hz => ?_, ins_sorted tot tr x h2⟩
      rcases List.mem_cons.mp ((ins_perm le x r).mem_iff.mp hz) with e | e
      · rw [e]; exact hyx
      · exact h1 z e
theorem isort_sorted {le : α → α → Bool} (tot : ∀ a b, le a b = true ∨ le b a = true) (tr : ∀ a b c, le a b = true → le b c = true → le a c = true) : ∀ l : List α, (isort le l).Pairwise fun a b => le a b = true
  | [] => .nil
  | x :: r => ins_sorted tot tr x (isort_sorted tot tr r)
theorem sorted_one {le : α → α → Bool} : ∀ {l m : List α}, l.Perm m → l.Pairwise (fun a b => le a b = true) → m.Pairwise (fun a b => le a b = true) → (∀ a b, a ∈ l → b ∈ l → le a b = true → le b a = true → a = b) → l = m
  | [], m, p, _, _, _ => p.nil_eq
  | a :: l, [], p, _, _, _ => absurd p.symm.nil_eq (by simp)
  | a :: l, b :: m, p, h1, h2, an => by
    obtain ⟨a1, a2⟩ := List.pairwise_cons.mp h1
    obtain ⟨b1, b2⟩ := List.pairwise_cons.mp h2
    have e : a = b := by
      have hb : b ∈ a :: l := p.mem_iff.mpr List.mem_cons_self
      have ha : a ∈ b :: m := p.mem_iff.mp List.mem_cons_self
      rcases List.mem_cons.mp hb with z | z
      · exact z.symm
      · rcases List.mem_cons.mp ha with y | y
        · exact y
        · exact an a b List.mem_cons_self hb (a1 b z) (b1 a y)
    subst e
    rw [sorted_one (p.cons_inv) a2 b2 fun x y hx hy => an x y (List.mem_cons_of_mem _ hx) (List.mem_cons_of_mem _ hy)]
end

/-! ### sorted(x) -/
abbrev Tk := List (Int ⊕ List Nat)
def tkLt (a b : Tk) : Bool := PyProof.Rows.lexLt PyProof.Rows.itemOrd a b
def datsOf (L : LH) : List LV → Option (List (LV × PyData))
  | [] => some []
  | x :: r => match dat L x with
    | some d => (match datsOf L r with
      | some ds => some ((x, d) :: ds)
      | none => none)
    | none => none
def isTupD : PyData → Bool
  | .tuple (_ :: _) => true
  | _ => false
def isOthD : PyData → Bool
  | .tuple _ => false
  | .none => false
  | _ => true
def isIntD : PyData → Bool
  | .int _ => true
  | _ => false
def strictD : List (LV × PyData) → Bool
  | a :: b :: r => tkLt (PySem.W.keyToks a.2) (PySem.W.keyToks b.2) && strictD (b :: r)
  | _ => true
def alikeD (ps : List (LV × PyData)) : Bool := ps.all fun a => ps.all fun b => PySem.W.alike a.2 b.2
def tkLe (a b : LV × PyData) : Bool := !tkLt (PySem.W.keyToks b.2) (PySem.W.keyToks a.2)
/-- what sorted gives -/
def sortD (ps : List (LV × PyData)) : Option (List (LV × PyData)) :=
  if (alikeD ps && ((ps.all fun a => isTupD a.2) || (ps.all fun a => isOthD a.2))) = true then
    (let qs := isort tkLe ps
     if (strictD qs || ps.all fun a => isIntD a.2) = true then some qs else none)
  else none
def rSortL : OpN
  | [.ref n], L => match seqOf L (.ref n) with
    | some xs => (match datsOf L xs with
      | some ps => (match sortD ps with
        | some qs => if Nat.ble xs.length sizeLine = true then some (.ref L.length, L ++ [.lst (qs.map (·.1))]) else none
        | none => none)
      | none => none)
    | none => none
  | _, _ => none
theorem tkLe_eq : tkLe = PySem.W.dataLe false (fun p : LV × PyData => p.2) := rfl
theorem tkLe_tot (a b : LV × PyData) : tkLe a b = true ∨ tkLe b a = true := by
  cases h : tkLe a b with
  | true => exact .inl rfl
  | false =>
    right
    cases h2 : tkLe b a with
    | true => rfl
    | false =>
      unfold tkLe at h h2
      rw [Bool.not_eq_false'] at h h2
      have h3 := (PyProof.Rows.listOrd PyProof.Rows.itemOrd).trans _ _ _ h h2
      have h4 := (PyProof.Rows.listOrd PyProof.Rows.itemOrd).irrefl (PySem.W.keyToks b.2)
      exact absurd (h4.symm.trans h3) (by simp)
theorem tkLe_tr (a b c : LV × PyData) (h1 : tkLe a b = true) (h2 : tkLe b c = true) : tkLe a c = true := by
  unfold tkLe at *
  rw [Bool.not_eq_true'] at *
  cases h : tkLt (PySem.W.keyToks c.2) (PySem.W.keyToks a.2) with
  | false => rfl
  | true =>
    rcases (PyProof.Rows.listOrd PyProof.Rows.itemOrd).negTrans _ (PySem.W.keyToks b.2) _ h with z | z
    · exact absurd (h2.symm.trans z) (by simp)
    · exact absurd (h1.symm.trans z) (by simp)
theorem strictD_anti : ∀ {qs : List (LV × PyData)}, strictD qs = true → qs.Pairwise fun a b => tkLt (PySem.W.keyToks a.2) (PySem.W.keyToks b.2) = true
  | [], _ => .nil
  | [a], _ => by simp
  | a :: b :: r, h => by
    unfold strictD at h
    rw [Bool.and_eq_true_iff] at h
    have ih := strictD_anti h.2
    refine List.pairwise_cons.mpr ⟨fun z hz => ?_, ih⟩
    rcases List.mem_cons.mp hz with e | e
    · rw [e]; exact h.1
    · exact (PyProof.Rows.listOrd PyProof.Rows.itemOrd).trans _ _ _ h.1 ((List.pairwise_cons.mp ih).1 z e)
theorem sortD_merge {ps qs : List (LV × PyData)} (h : sortD ps = some qs) (hd : ∀ a b, a ∈ ps → b ∈ ps → a.2 = b.2 → isIntD a.2 = true → a = b) : ps.mergeSort tkLe = qs := by
  unfold sortD at h
  split at h
  · rename_i hc
    dsimp only at h
    split at h
    · rename_i hs
      cases h
      have p1 := List.mergeSort_perm ps tkLe
      have p2 := isort_perm tkLe ps
      have s1 : (ps.mergeSort tkLe).Pairwise fun a b => tkLe a b = true := List.pairwise_mergeSort (fun a b c => tkLe_tr a b c) (fun a b => by simpa [Bool.or_eq_true] using tkLe_tot a b) ps
      have s2 := isort_sorted tkLe_tot tkLe_tr ps
      refine sorted_one (p1.trans p2.symm) s1 s2 fun a b ha hb l1 l2 => ?_
      have ha' := p1.mem_iff.mp ha
      have hb' := p1.mem_iff.mp hb
      have ek : PySem.W.keyToks a.2 = PySem.W.keyToks b.2 := by
        unfold tkLe at l1 l2
        rw [Bool.not_eq_true'] at l1 l2
        exact (PyProof.Rows.listOrd PyProof.Rows.itemOrd).total _ _ l2 l1
      rw [Bool.or_eq_true_iff] at hs
      rcases hs with hs | hs
      · have st := strictD_anti hs
        have ia := p2.mem_iff.mpr ha'
        have ib := p2.mem_iff.mpr hb'
        obtain ⟨i, hi⟩ := List.getElem?_of_mem ia
        obtain ⟨j, hj⟩ := List.getElem?_of_mem ib
        have irr := (PyProof.Rows.listOrd PyProof.Rows.itemOrd).irrefl (PySem.W.keyToks b.2)
        obtain ⟨hi1, hi2⟩ := List.getElem?_eq_some_iff.mp hi
        obtain ⟨hj1, hj2⟩ := List.getElem?_eq_some_iff.mp hj
        rcases Nat.lt_trichotomy i j with hij | hij | hij
        · have := List.pairwise_iff_getElem.mp st i j hi1 hj1 hij
          rw [hi2, hj2, ek] at this
          exact absurd (irr.symm.trans this) (by simp)
        · subst hij
          rw [hi] at hj
          exact Option.some.inj hj
        · have := List.pairwise_iff_getElem.mp st j i hj1 hi1 hij
          rw [hi2, hj2, ek] at this
          exact absurd (irr.symm.trans this) (by simp)
      · have h1 := List.all_eq_true.mp hs a ha'
        have h2 := List.all_eq_true.mp hs b hb'
        refine hd a b ha' hb' ?_ h1
        cases e1 : a.2 with
        | int i => cases e2 : b.2 with
          | int j =>
            rw [e1, e2] at ek
            unfold PySem.W.keyToks at ek
            cases ek
            rfl
          | _ => rw [e2] at h2; cases h2
        | _ => rw [e1] at h1; cases h1
    · cases h
  · cases h
theorem sortD_ok {ps qs : List (LV × PyData)} (h : sortD ps = some qs) : PySem.W.AllAlike (ps.map (·.2)) ∧ PySem.W.Sortable (ps.map (·.2)) := by
  unfold sortD at h
  split at h
  · rename_i hc
    rw [Bool.and_eq_true_iff, Bool.or_eq_true_iff] at hc
    refine ⟨fun d hd d' hd' => ?_, ?_⟩
    · obtain ⟨a, ha, rfl⟩ := List.mem_map.mp hd
      obtain ⟨b, hb, rfl⟩ := List.mem_map.mp hd'
      exact List.all_eq_true.mp (List.all_eq_true.mp hc.1 a ha) b hb
    · rcases hc.2 with z | z
      · refine .inl fun d hd => ?_
        obtain ⟨a, ha, rfl⟩ := List.mem_map.mp hd
        have := List.all_eq_true.mp z a ha
        cases e : a.2 with
        | tuple xs => cases xs with
          | nil => rw [e] at this; cases this
          | cons x r => exact ⟨x, r, rfl⟩
        | _ => rw [e] at this; cases this
      · refine .inr fun d hd => ?_
        obtain ⟨a, ha, rfl⟩ := List.mem_map.mp hd
        have := List.all_eq_true.mp z a ha
        refine ⟨fun e => ?_, fun xs e => ?_⟩
        · rw [e] at this; cases this
        · rw [e] at this; cases this
  · cases h
theorem dat_int {L : LH} {x : LV} {i : Int} (h : dat L x = some (.int i)) : x = .int i := by
  unfold dat at h
  split at h
  · rename_i d hd
    split at h
    · cases h
      cases x with
      | int j => cases hd; rfl
      | non => cases hd
      | bl b => cases hd
      | str z => cases hd
      | tup xs =>
        unfold datT at hd
        split at hd <;> cases hd
      | ref n =>
        unfold datT datR at hd
        split at hd
        · split at hd <;> cases hd
        · cases hd
    · cases h
  · cases h
theorem datsOf_mem {L : LH} : ∀ {xs : List LV} {ps : List (LV × PyData)}, datsOf L xs = some ps → ps.map (·.1) = xs ∧ ∀ p ∈ ps, dat L p.1 = some p.2
  | [], ps, h => by cases h; exact ⟨rfl, fun _ h => by cases h⟩
  | x :: xs, ps, h => by
    unfold datsOf at h
    split at h
    · rename_i d hd
      split at h
      · rename_i ds hs
        cases h
        obtain ⟨a, b⟩ := datsOf_mem hs
        refine ⟨by rw [List.map_cons, a], fun p hp => ?_⟩
        rcases List.mem_cons.mp hp with e | e
        · rw [e]; exact hd
        · exact b p e
      · cases h
    · cases h
section
variable {X : Cx} {G : Gm}
/-- the values of a row, and what they are -/
def SR (X : Cx) (μ : List Addr) (H : Hp) (v : Value) (p : LV × PyData) : Prop := ∃ y, VRel X.K μ H p.1 y ∧ RelV y v
theorem sr_each {μ : List Addr} {H : Hp} : ∀ {ps : List (LV × PyData)} {xs : List LV} {vs : List V} {us : List Value}, ps.map (·.1) = xs → VRels X.K μ H xs vs → Vals vs us → PySem.W.EachIs (SR X μ H) us ps
  | [], _, vs, us, e, r, q => by
    cases e
    cases r
    cases q
    exact .nil
  | p :: ps, _, vs, us, e, r, q => by
    cases e
    obtain ⟨v, vr, rfl, r1, r2⟩ := r
    cases q with
    | cons q1 q2 => exact .cons ⟨v, r1, q1⟩ (sr_each rfl r2 q2)
theorem sr_back {μ : List Addr} {H : Hp} : ∀ {ps : List (LV × PyData)} {us : List Value}, PySem.W.EachIs (SR X μ H) us ps → ∃ vs, VRels X.K μ H (ps.map (·.1)) vs ∧ Vals vs us
  | _, _, .nil => ⟨[], rfl, .nil⟩
  | _, _, .cons ⟨y, r1, q1⟩ t => by
    obtain ⟨vs, a, b⟩ := sr_back t
    exact ⟨y :: vs, ⟨y, vs, rfl, r1, a⟩, .cons q1 b⟩
theorem each_mem' {α β : Type} {R : α → β → Prop} : ∀ {as : List α} {bs : List β}, PySem.W.EachIs R as bs → PySem.W.EachIs (fun a b => R a b ∧ b ∈ bs) as bs
  | _, _, .nil => .nil
  | _, _, .cons h t => .cons ⟨h, List.mem_cons_self⟩ ((each_mem' t).mono fun _ _ ⟨h1, h2⟩ => ⟨h1, List.mem_cons_of_mem _ h2⟩)

theorem each_reads {pins : List (Addr × Obj)} {σ : St} {H : Hp} {s : Shared} {μ : List Addr} {L : LH} {us : List Value} {ps : List (LV × PyData)} (I : Inv X pins σ H s) (hr : HRel G X.w X.K μ L H) (hd : ∀ p ∈ ps, dat L p.1 = some p.2) (ei : PySem.W.EachIs (SR X μ H) us ps) : PySem.W.EachIs (fun v (b : LV × PyData) => ∃ as, Reads s.heap v b.2 as) us ps :=
  (each_mem' ei).mono fun v b ⟨⟨y, r1, q1⟩, hb⟩ => by
    obtain ⟨p1, _⟩ := dat_dp hr (hd b hb) r1
    exact Dp.reads I b.2 y v p1 q1
theorem sort_hd {L : LH} {xs : List LV} {ps : List (LV × PyData)} (hp : datsOf L xs = some ps) : ∀ a b, a ∈ ps → b ∈ ps → a.2 = b.2 → isIntD a.2 = true → a = b := fun a b ha hb e hi => by
  obtain ⟨hx, hd⟩ := datsOf_mem hp
  obtain ⟨a1, a2⟩ := a
  obtain ⟨b1, b2⟩ := b
  dsimp only at e hi
  subst e
  cases a2 with
  | int i =>
    have h1 := dat_int (hd _ ha)
    have h2 := dat_int (hd _ hb)
    dsimp only at h1 h2
    rw [h1, h2]
  | _ => cases hi
theorem dat_depth {L : LH} {x : LV} {d : PyData} (h : dat L x = some d) : d.depth ≤ 64 := by
  unfold dat at h
  split at h
  · split at h
    · rename_i hs
      cases h
      exact SeqAt.depth_of_shaped hs
    · cases h
  · cases h
theorem sorted_list {pins : List (Addr × Obj)} {σ : St} {H : Hp} {s : Shared} {Q : VK} {μ : List Addr} {L : LH} {xs : List LV} {vs : List V} {us : List Value} {ps qs : List (LV × PyData)} {a : Addr} (hu : X.A.units + 70 < cLine) (I : Inv X pins σ H s) (hr : HRel G X.w X.K μ L H) (rv : VRels X.K μ H xs vs) (r : Vals vs us) (hl : s.heap.IsList a us.toArray)
    (hp : datsOf L xs = some ps) (hs : sortD ps = some qs) (hz : xs.length ≤ sizeLine) (o : OutO (RV X.K) G X.w X.K Q μ L H (some (.ref L.length, L ++ [.lst (qs.map (·.1))]))) :
    wpAny (model X.prog X.w) X.A (call (.builtin "sorted") [.ref a]) (EP X pins σ Q) X.xe s := by
  obtain ⟨hx, hd⟩ := datsOf_mem hp
  obtain ⟨hal, hk⟩ := sortD_ok hs
  have ei := sr_each hx rv r
  have hL : ps.length ≤ sizeLine := by rw [← hx, List.length_map] at hz; exact hz
  refine PySem.W.sorted_data (enc := fun p : LV × PyData => p.2) hl ei (each_reads I hr hd ei) hal hk hL (fun b hb => ?_) fun out ho eo => ?_
  · have := dat_depth (hd b hb)
    omega
  · rw [← tkLe_eq, sortD_merge hs (sort_hd hp)] at eo
    obtain ⟨ws, r1, r2⟩ := sr_back eo
    have hoL : (PySem.W.copyHeap s.heap us).get? (s.heap.objs.size + 1) = some (PyProof.Rows.seqObj "list" us.toArray 0) := PySem.W.copyHeap_at s.heap us
    obtain ⟨e', he'⟩ := PyProof.Rows.sortedHeap_at (vs := us) (out := out.toArray) hoL
    have hlen : ws.length ≤ sizeLine := by rw [r2.length, ho]; exact hL
    have I2 : Inv X pins σ (upd H (s.heap.objs.size + 1) (.lst ws)) { s with heap := PyProof.Rows.sortedAll s.heap us out.toArray } := I.laid (t' := s.toks) (fun b u e => ?_) (Nat.le_succ _) (show ObjOk X.prog X.w _ _ _ (.lst ws) from ⟨hlen, out, e', r2, he'⟩)
    · exact ⟨.ref (s.heap.objs.size + 1), _, I2, rfl, OutO.lst o hr r1 _ (I.hok.fresh (Nat.le_succ _))⟩
    · have hb : b < s.heap.objs.size := Heap.lt_size e
      show (PyProof.Rows.sortedHeap (PySem.W.copyHeap s.heap us) (s.heap.objs.size + 1) us out.toArray).get? b = some u
      rw [PyProof.Rows.sortedHeap_old (Nat.ne_of_lt (Nat.lt_succ_of_lt hb)) (Nat.lt_trans (Nat.lt_succ_of_lt hb) (Heap.lt_size hoL))]
      exact PySem.W.copyHeap_old e
theorem sorted_dict {pins : List (Addr × Obj)} {σ : St} {H : Hp} {s : Shared} {Q : VK} {μ : List Addr} {L : LH} {n : Nat} {vv : Nat} {kvs : List (LV × LV)} {ps qs : List (LV × PyData)} {a : Addr} (hc : X.calm = true) (hu : X.A.units + 70 < cLine) (I : Inv X pins σ H s) (hr : HRel G X.w X.K μ L H) (hn : L[n]? = some (.dct vv kvs)) (ha : μ[n]? = some a)
    (hp : datsOf L (kvs.map (·.1)) = some ps) (hs : sortD ps = some qs) (o : OutO (RV X.K) G X.w X.K Q μ L H (some (.ref L.length, L ++ [.lst (qs.map (·.1))]))) :
    wpAny (model X.prog X.w) X.A (call (.builtin "sorted") [.ref a]) (EP X pins σ Q) X.xe s := by
  obtain ⟨ob, hob, hm, d⟩ := dct_of hr hn ha
  obtain ⟨es, ep, hd', hz, pr⟩ := d.es
  obtain ⟨vs, rv, r⟩ := drel_keys pr
  obtain ⟨hx, hd⟩ := datsOf_mem hp
  obtain ⟨hal, hk⟩ := sortD_ok hs
  have ei := sr_each hx rv r
  have e0 := each_reads I hr hd ei
  have hle : (es.toList.map (·.key)).length ≤ sizeLine := by rw [List.length_map, Array.length_toList]; exact hz
  refine Calls.call_function_entry PyProof.Rows.kind_sorted PyProof.Rows.plain_sorted PyProof.Rows.entry_sorted (PyProof.Rows.args_sorted1 _) ?_
  unfold Builtin.«sorted»
  refine wpAny_bind (m := checkCount "sorted" 1 1 _) (wpAny_pure ?_)
  refine wpAny_bind (PySem.W.kdu_collect (A := X.A.in1) (kdl_raw hm d.ex hd') (I.ok.hd hc) (dX_at I.hok hob) hz fun h' tk acc kp it => ?_)
  rw [items_keys it]
  generalize hus : es.toList.map (·.key) = us at *
  have I1 : Inv X pins σ H { s with heap := h', toks := tk } := I.kept kp
  refine wpAny_bind (wpAny_newList ?_ hle)
  have hoL : (h'.push (PyProof.Rows.seqObj "list" us.toArray 0)).get? h'.objs.size = some (PyProof.Rows.seqObj "list" us.toArray 0) := Heap.get?_push_size _ rfl
  show wpAny _ _ _ _ _ { s with heap := h'.push (PyProof.Rows.seqObj "list" us.toArray 0), toks := tk }
  have er : PySem.W.EachIs (fun v (b : LV × PyData) => ∃ as, Reads (PySem.W.sortingHeap (h'.push (PyProof.Rows.seqObj "list" us.toArray 0)) h'.objs.size us) v b.2 as) us ps := e0.mono fun v b ⟨as, rd⟩ => ⟨as, PyProof.Rows.Reads.keeps (fun c ob e => PySem.W.sortingHeap_old (Nat.ne_of_lt (Heap.lt_size (kp _ _ e))) (Heap.get?_push_of_some _ (kp _ _ e))) rd⟩
  refine wpAny_bind (wpAny_holding (wpAny_call_entry PyProof.Rows.slot_list_sort ⟨_, hoL, rfl⟩ PyProof.Rows.entry_list_sort
    (PySem.W.list_sort_vals (s := { s with heap := h'.push (PyProof.Rows.seqObj "list" us.toArray 0), toks := tk }) (κ := PySem.W.dataKind (PySem.W.sortingHeap (h'.push (PyProof.Rows.seqObj "list" us.toArray 0)) h'.objs.size us) (ps.map (·.2))) hoL
      (PySem.W.SortsAt.data (s := { s with heap := PySem.W.sortingHeap (h'.push (PyProof.Rows.seqObj "list" us.toArray 0)) h'.objs.size us, toks := tk }) (PySem.W.each_map (R := fun v d => ∃ as, Reads (PySem.W.sortingHeap (h'.push (PyProof.Rows.seqObj "list" us.toArray 0)) h'.objs.size us) v d as) (fun p : LV × PyData => p.2) er) hal hk (PySem.W.bound_map (enc := fun p : LV × PyData => p.2) fun b hb => ?_)) hle ⟨_, rfl, ?_⟩)
    (PyProof.Rows.args_list_sort _)))
  · have := dat_depth (hd b hb)
    show X.A.units + 1 + 1 + b.2.depth < cLine
    omega
  · have eo := PySem.W.sortVals_data (enc := fun p : LV × PyData => p.2) false ei er hal
    rw [← tkLe_eq, sortD_merge hs (sort_hd hp)] at eo
    obtain ⟨ws, r1, r2⟩ := sr_back eo
    generalize hout : PySem.W.sortVals _ false us us = out at *
    obtain ⟨e', he'⟩ := PyProof.Rows.sortedHeap_at (vs := us) (out := out.toArray) hoL
    have hlen : ws.length ≤ sizeLine := by
      rw [r2.length, ← hout, PySem.W.sortVals_length false rfl]
      exact hle
    refine wpAny_pure ⟨_, rfl, .ref h'.objs.size, _, I1.laid (t' := tk) (fun b u e => ?_) (Nat.le_refl _) (show ObjOk X.prog X.w _ _ _ (.lst ws) from ⟨hlen, out, e', r2, he'⟩), rfl, OutO.lst o hr r1 _ (I1.hok.fresh (Nat.le_refl _))⟩
    have hb : b < h'.objs.size := Heap.lt_size e
    rw [PyProof.Rows.sortedHeap_old (Nat.ne_of_lt hb) (by rw [Heap.size_push]; exact Nat.lt_succ_of_lt hb)]
    exact Heap.get?_push_of_some _ e
theorem jc_sorted (hc : X.calm = true) (hu : X.A.units + 70 < cLine) : JCall X G (.builtin "sorted") rSortL := by
  intro pins s σ H xs us Q I r h
  obtain ⟨μ, L, as, hr, rs, o⟩ := h
  unfold rSortL at o
  split at o
  · rename_i n
    obtain ⟨v, q, rfl, rv, rfl⟩ := rs
    split at o
    · rename_i ys hs
      split at o
      · rename_i ps hp
        split at o
        · rename_i qs hq
          split at o
          · rename_i hz
            obtain ⟨a, ha, rfl⟩ := rv
            unfold seqOf at hs
            dsimp only at hs
            obtain ⟨u, rfl, rx⟩ := r.one
            cases rx
            cases hn : L[n]? with
            | none => rw [hn] at hs; cases hs
            | some ob =>
              rw [hn] at hs
              cases ob with
              | lst zs =>
                cases hs
                obtain ⟨a', vs, ha', sq, rv⟩ := hr.lst (n := n) (xs := ys) (by unfold lstAt; rw [hn])
                rw [ha] at ha'
                cases ha'
                obtain ⟨its, r', pl, _⟩ := I.list sq
                exact sorted_list hu I hr rv r' pl.isList hp hq (Nat.le_of_ble_eq_true hz) o
              | fz zs =>
                cases hs
                obtain ⟨a', vs, ha', sq, rv⟩ := hr.lst (n := n) (xs := ys) (by unfold lstAt; rw [hn])
                rw [ha] at ha'
                cases ha'
                obtain ⟨its, r', pl, _⟩ := I.list sq
                exact sorted_list hu I hr rv r' pl.isList hp hq (Nat.le_of_ble_eq_true hz) o
              | dct vv kvs =>
                cases hs
                exact sorted_dict hc hu I hr hn ha hp hq o
              | obj c fs => cases hs
          · exact o.elim
        · exact o.elim
      · exact o.elim
    · exact o.elim
  · exact o.elim
end
end LT

set_option Elab.async false
set_option linter.all false
set_option autoImplicit false
set_option maxRecDepth 100000
set_option maxHeartbeats 4000000
namespace LT
open PySem PySem.Spec L2

/-! ### <, of data -/
def isNoneD : PyData → Bool
  | .none => true
  | _ => false
def ltD : Op2 := fun x y L => match x, y with
  | .int i, .int j => some (.bl (decide (i < j)), L)
  | _, _ => match dat L x, dat L y with
    | some d, some e => if (PySem.W.alike d e && !isNoneD d) = true then some (.bl (PySem.W.dataLt d e), L) else none
    | _, _ => none
section
variable {X : Cx} {G : Gm}
theorem jo_ltD (hu : X.A.units + 70 < cLine) : JOp X G (compareOp .Lt) ltD := by
  intro pins s σ H x y v u Q I rx ry h
  obtain ⟨μ, L, a, b, hr, ra, rb, o⟩ := h
  unfold ltD at o
  split at o
  · cases ra
    cases rb
    exact op_lt pins s σ H _ _ v u Q I rx ry ⟨_, _, rfl, rfl, o.here hr rfl⟩
  · split at o
    · rename_i d e hd he
      split at o
      · rename_i hc
        rw [Bool.and_eq_true_iff] at hc
        obtain ⟨p1, s1⟩ := dat_dp hr hd ra
        obtain ⟨p2, s2⟩ := dat_dp hr he rb
        obtain ⟨as, r1⟩ := Dp.reads I d x v p1 rx
        obtain ⟨bs, r2⟩ := Dp.reads I e y u p2 ry
        have hdp := dat_depth hd
        exact PySem.W.lt_data r1 r2 hc.1 (fun z => by subst z; exact absurd hc.2 (by decide)) (by have := Nat.min_le_left d.depth e.depth; omega) ⟨.bl _, H, I, rfl, o.here hr rfl⟩
      · exact o.elim
    · exact o.elim

/-! ### ==, != of dicts, one of them empty -/
theorem same_raw {prog : Program} {w : World} {A : Around} {E : Value → Shared → Prop} {s : Shared} {nm : String} {a b : Addr} {oa ob : Obj} {es es' : Array DictEntry} {ep ep' : Nat} {Q : Bool → Shared → Prop} (ha : (a == sysModules) = false) (hb : (b == sysModules) = false)
    (hoa : s.heap.get? a = some oa) (hda : oa.data = .dict es ep) (hob : s.heap.get? b = some ob) (hdb : ob.data = .dict es' ep') (he : es.size = es'.size → es.size = 0) (h : Q (es.size == es'.size) s) : wpAny (model prog w) A (Builtin.Dict.samePairs nm a b) Q E s := by
  unfold Builtin.Dict.samePairs Builtin.Dict.showsAll
  rw [if_neg (show ¬ (a == sysModules) = true by rw [ha]; exact Bool.false_ne_true), if_neg (show ¬ (b == sysModules) = true by rw [hb]; exact Bool.false_ne_true)]
  refine wpAny_bind (wpAny_pure (wpAny_bind (wpAny_pure ?_)))
  refine wpAny_bind (wpAny_dictEntries hoa hda ?_)
  dsimp only
  refine wpAny_bind (wpAny_dictEntries hob hdb ?_)
  by_cases hsz : es.size = es'.size
  case neg =>
    rw [if_pos (by simpa using hsz)]
    have hbf : (es.size == es'.size) = false := by simpa using hsz
    rw [hbf] at h
    exact wpAny_bind (wpAny_rule (wpAny_pure h))
  case pos =>
    have h' : Q true s := by simpa [hsz] using h
    have h0 := he hsz
    rw [if_neg (by rw [hsz]; simp)]
    refine wpAny_bind (wpAny_dictEpoch hoa hda ?_)
    refine wpAny_bind ?_
    rw [h0, Std.Legacy.Range.forIn_eq_forIn_range']
    exact wpAny_pure (wpAny_pure h')
theorem dict_eq_raw {prog : Program} {w : World} {A : Around} {E : Value → Shared → Prop} {s : Shared} {a b : Addr} {oa ob : Obj} {es es' : Array DictEntry} {ep ep' : Nat} {Q : Value → Shared → Prop} (ha : (a == sysModules) = false) (hb : (b == sysModules) = false)
    (hoa : s.heap.get? a = some oa) (xa : oa.ExactDict) (hda : oa.data = .dict es ep) (hob : s.heap.get? b = some ob) (xb : ob.ExactDict) (hdb : ob.data = .dict es' ep') (he : es.size = es'.size → es.size = 0) (hu : A.units < cLine) (h : Q (.bool (es.size == es'.size)) s) : wpAny (model prog w) A (compareOp .Eq (.ref a) (.ref b)) Q E s := by
  have ta : s.TypeIs (.ref a) "dict" := ⟨oa, hoa, xa.1⟩
  have tb : s.TypeIs (.ref b) "dict" := ⟨ob, hob, xb.1⟩
  refine wpAny_richCompare_same_room (op := .Eq) ta tb PySem.F.slot_dict_eq (wpAny_call_entry PySem.F.slot_dict_eq ta PySem.F.entry_dict_eq ?_ (PySem.F.args_dict_eq_2 _ _)) hu
  show wpAny _ _ (Builtin.Dict.dictSlotArgs "__eq__" ⟨[.ref a, .ref b], []⟩ >>= _) _ _ s
  refine wpAny_bind ?_
  unfold Builtin.Dict.dictSlotArgs
  refine wpAny_bind (wpAny_notOrdered_dict ta ?_)
  show wpAny _ _ (pure (Value.ref a, Value.ref b)) _ _ s
  refine wpAny_pure ?_
  refine wpAny_bind (wpAny_isInstance (T := "dict") tb PySem.F.sub_dict_dict ?_)
  simp only [Bool.not_true, Bool.false_eq_true, if_false]
  refine wpAny_bind (wpAny_pure (wpAny_bind (wpAny_pure ?_)))
  refine wpAny_bind (same_raw ha hb hoa hda hob hdb he ?_)
  refine wpAny_pure ⟨_, rfl, ?_, ?_⟩
  · exact fun x => nomatch x
  · simpa using h
theorem dict_ne_raw {prog : Program} {w : World} {A : Around} {E : Value → Shared → Prop} {s : Shared} {a b : Addr} {oa ob : Obj} {es es' : Array DictEntry} {ep ep' : Nat} {Q : Value → Shared → Prop} (ha : (a == sysModules) = false) (hb : (b == sysModules) = false)
    (hoa : s.heap.get? a = some oa) (xa : oa.ExactDict) (hda : oa.data = .dict es ep) (hob : s.heap.get? b = some ob) (xb : ob.ExactDict) (hdb : ob.data = .dict es' ep') (he : es.size = es'.size → es.size = 0) (hu : A.units < cLine) (h : Q (.bool (!(es.size == es'.size))) s) : wpAny (model prog w) A (compareOp .NotEq (.ref a) (.ref b)) Q E s := by
  have ta : s.TypeIs (.ref a) "dict" := ⟨oa, hoa, xa.1⟩
  have tb : s.TypeIs (.ref b) "dict" := ⟨ob, hob, xb.1⟩
  refine wpAny_richCompare_same_room (op := .NotEq) ta tb PySem.F.slot_dict_ne (wpAny_call_entry PySem.F.slot_dict_ne ta PySem.F.entry_dict_ne ?_ (PySem.F.args_dict_ne_2 _ _)) hu
  show wpAny _ _ (Builtin.Dict.dictSlotArgs "__ne__" ⟨[.ref a, .ref b], []⟩ >>= _) _ _ s
  refine wpAny_bind ?_
  unfold Builtin.Dict.dictSlotArgs
  refine wpAny_bind (wpAny_notOrdered_dict ta ?_)
  show wpAny _ _ (pure (Value.ref a, Value.ref b)) _ _ s
  refine wpAny_pure ?_
  refine wpAny_bind (wpAny_isInstance (T := "dict") tb PySem.F.sub_dict_dict ?_)
  simp only [Bool.not_true, Bool.false_eq_true, if_false]
  refine wpAny_bind (wpAny_pure (wpAny_bind (wpAny_pure ?_)))
  refine wpAny_bind (same_raw ha hb hoa hda hob hdb he ?_)
  refine wpAny_pure ⟨_, rfl, ?_, ?_⟩
  · exact fun x => nomatch x
  · simpa using h
/-- x == y: data, or dicts of which one is empty -/
def eqL2 (L : LH) (x y : LV) : Option Bool := match x, y with
  | .ref n, .ref m => (match L[n]?, L[m]? with
    | some (.dct _ ks), some (.dct _ ls) => (match ks, ls with
      | [], [] => some true
      | [], _ :: _ => some false
      | _ :: _, [] => some false
      | _, _ => none)
    | _, _ => eqL L x y)
  | _, _ => eqL L x y
def eqV2 : Op2 := fun x y L => match eqL2 L x y with
  | some b => some (.bl b, L)
  | none => none
def neV2 : Op2 := fun x y L => match eqL2 L x y with
  | some b => some (.bl (!b), L)
  | none => none
theorem eqL2_cases {L : LH} {x y : LV} {r : Bool} (h : eqL2 L x y = some r) : eqL L x y = some r ∨ ∃ n m v1 ks v2 ls, x = .ref n ∧ y = .ref m ∧ L[n]? = some (.dct v1 ks) ∧ L[m]? = some (.dct v2 ls) ∧ (ks.length = ls.length → ks.length = 0) ∧ r = (ks.length == ls.length) := by
  unfold eqL2 at h
  split at h
  · rename_i n m
    split at h
    · rename_i v1 ks v2 ls h1 h2
      split at h
      · cases h; exact .inr ⟨n, m, v1, _, v2, _, rfl, rfl, h1, h2, (fun _ => rfl), rfl⟩
      · cases h; exact .inr ⟨n, m, v1, _, v2, _, rfl, rfl, h1, h2, (fun _ => rfl), rfl⟩
      · cases h; exact .inr ⟨n, m, v1, _, v2, _, rfl, rfl, h1, h2, (fun z => by simp at z), rfl⟩
      · cases h
    · exact .inl h
  · exact .inl h
theorem drel_size {w : World} {K : PySem.W.Frag} {μ : List Addr} {H : Hp} {kvs : List (LV × LV)} {es : Array DictEntry} (p : Paired (ERel w K μ H) kvs es.toList) : es.size = kvs.length := by rw [p.length, Array.length_toList]
theorem jo_eq2 (hu : X.A.units + 64 < cLine) : JOp X G (compareOp .Eq) eqV2 := by
  intro pins s σ H x y v u Q I rx ry h
  obtain ⟨μ, L, a, b, hr, ra, rb, o⟩ := h
  unfold eqV2 at o
  split at o
  · rename_i r h
    rcases eqL2_cases h with h | ⟨n, m, v1, ks, v2, ls, rfl, rfl, hn, hm, he, rfl⟩
    · exact jo_eq (G := G) hu pins s σ H x y v u Q I rx ry ⟨μ, L, a, b, hr, ra, rb, by unfold eqV; rw [h]; exact o⟩
    · obtain ⟨p, hp, rfl⟩ := ra
      obtain ⟨q, hq, rfl⟩ := rb
      cases rx
      cases ry
      obtain ⟨o1, ho1, m1, d1⟩ := dct_of hr hn hp
      obtain ⟨o2, ho2, m2, d2⟩ := dct_of hr hm hq
      obtain ⟨es, ep, e1, z1, p1⟩ := d1.es
      obtain ⟨es', ep', e2, z2, p2⟩ := d2.es
      have l1 := drel_size p1
      have l2 := drel_size p2
      exact dict_eq_raw m1 m2 (dX_at I.hok ho1) d1.ex e1 (dX_at I.hok ho2) d2.ex e2 (by rw [l1, l2]; exact he) (by omega) ⟨.bl _, H, I, rfl, o.here hr (show V.bl _ = V.bl _ by rw [l1, l2])⟩
  · exact o.elim
theorem jo_ne2 (hu : X.A.units + 64 < cLine) : JOp X G (compareOp .NotEq) neV2 := by
  intro pins s σ H x y v u Q I rx ry h
  obtain ⟨μ, L, a, b, hr, ra, rb, o⟩ := h
  unfold neV2 at o
  split at o
  · rename_i r h
    rcases eqL2_cases h with h | ⟨n, m, v1, ks, v2, ls, rfl, rfl, hn, hm, he, rfl⟩
    · exact jo_ne (G := G) hu pins s σ H x y v u Q I rx ry ⟨μ, L, a, b, hr, ra, rb, by unfold neV; rw [h]; exact o⟩
    · obtain ⟨p, hp, rfl⟩ := ra
      obtain ⟨q, hq, rfl⟩ := rb
      cases rx
      cases ry
      obtain ⟨o1, ho1, m1, d1⟩ := dct_of hr hn hp
      obtain ⟨o2, ho2, m2, d2⟩ := dct_of hr hm hq
      obtain ⟨es, ep, e1, z1, p1⟩ := d1.es
      obtain ⟨es', ep', e2, z2, p2⟩ := d2.es
      have l1 := drel_size p1
      have l2 := drel_size p2
      exact dict_ne_raw m1 m2 (dX_at I.hok ho1) d1.ex e1 (dX_at I.hok ho2) d2.ex e2 (by rw [l1, l2]; exact he) (by omega) ⟨.bl _, H, I, rfl, o.here hr (show V.bl _ = V.bl _ by rw [l1, l2])⟩
  · exact o.elim
end

/-! ### isinstance -/
def tyName : Nat → String
  | 0 => "NoneType"
  | 1 => "bool"
  | 2 => "int"
  | 3 => "str"
  | 4 => "tuple"
  | 5 => "list"
  | _ => "dict"
/-- a value's type: 0 .. 6 the built-in ones, 7 + c the class c -/
def tyTag (L : LH) : LV → Option Nat
  | .non => some 0
  | .bl _ => some 1
  | .int _ => some 2
  | .str _ => some 3
  | .tup _ => some 4
  | .ref n => match L[n]? with
    | some (.lst _) => some 5
    | some (.fz _) => some 5
    | some (.dct _ _) => some 6
    | some (.obj c _) => some (7 + c)
    | none => none
def tyVal (G : Gm) (t : Nat) : Value := if t < 7 then .type (tyName t) else .ref (G.cls (t - 7))
structure ClsK (K : PySem.W.Frag) (C : Addr) : Prop where
  cl : Cls K C
  ha : PySem.W.findIn K (.ref C) "__class__" = some (some (.builtin "object.__class__"))
  hn : PySem.W.specialIn K (.builtin "object.__class__") "__get__" = some (some (.builtin "getset_descriptor.__get__"))
  htk : PySem.W.takesIn K (.builtin "object.__class__") = some true
  hm : PySem.W.mroIn K C (.type "object") = some true
section
variable {X : Cx} {G : Gm}
theorem kitL {pins : List (Addr × Obj)} {s : Shared} {σ : St} {H : Hp} {μ : List Addr} {L : LH} {a : LV} {x : V} {u : Value} {t : Nat} (I : Inv X pins σ H s) (hr : HRel G X.w X.K μ L H) (ra : VRel X.K μ H a x) (rx : RelV x u) (ht : tyTag L a = some t) (hC : ∀ c, t = 7 + c → ClsK X.K (G.cls c)) :
    ∃ P : Heap → Prop, PySem.W.KitX X.K u (tyVal G t) P ∧ P s.heap ∧ u ≠ .builtin "__main__.__loader__#opaque" := by
  cases a with
  | non => cases ht; cases ra; exact kit_of I rx (.base .non)
  | bl b => cases ht; cases ra; exact kit_of I rx (.base (.bl b))
  | int i => cases ht; cases ra; exact kit_of I rx (.base (.int i))
  | str z => cases ht; cases ra; exact kit_of I rx (.base (.str z))
  | tup xs =>
    cases ht
    obtain ⟨p, vs, rfl, sq, _⟩ := ra
    cases rx
    obtain ⟨its, _, ⟨ob, h1, h2, _⟩, _⟩ := I.tuple sq
    exact ⟨_, PySem.W.kitx_tuple, ⟨ob, h1, h2⟩, fun z => nomatch z⟩
  | ref n =>
    obtain ⟨p, hp, rfl⟩ := ra
    cases rx
    unfold tyTag at ht
    dsimp only at ht
    cases hn : L[n]? with
    | none => rw [hn] at ht; cases ht
    | some ob =>
      rw [hn] at ht
      cases ob with
      | lst zs =>
        cases ht
        obtain ⟨vs, e, _⟩ := hr.obj n p _ hp hn
        exact kit_of I (x := .ref p) (u := .ref p) rfl (.base (.lst e))
      | fz zs =>
        cases ht
        obtain ⟨o, vs, e, _⟩ := hr.obj n p _ hp hn
        exact kit_of I (x := .ref p) (u := .ref p) rfl (.base (.frz e))
      | dct v kvs =>
        cases ht
        obtain ⟨o, e, _, d⟩ := hr.obj n p _ hp hn
        exact ⟨_, PySem.W.kitx_dict, ⟨o, dX_at I.hok e, d.ex.1⟩, fun z => nomatch z⟩
      | obj c fs =>
        cases ht
        obtain ⟨dx, gs, e, _⟩ := hr.obj n p _ hp hn
        obtain ⟨c1, c2, c3, c4, c5⟩ := hC c rfl
        have := kit_of I (x := .ref p) (u := .ref p) rfl (.base (.ins e c1 c2 c3 c4 c5))
        unfold tyVal
        rw [if_neg (by omega), Nat.add_sub_cancel_left]
        exact this
/-- isinstance(x, c): how the types t answer -/
structure IsiT (K : PySem.W.Frag) (G : Gm) (cv : Value) (ans : Nat → Option Bool) : Prop where
  ok : ∀ t b, ans t = some b → PySem.W.kitOne K (tyVal G t) cv = some b
  cl : ∀ c b, ans (7 + c) = some b → ClsK K (G.cls c)
def rIsiL (K : PySem.W.Frag) (w : World) (G : Gm) (cV : V) (ans : Nat → Option Bool) : List V → Hp → VK → Prop := fun vs H Q => ∃ μ L a x t b, vs = [x, cV] ∧ HRel G w K μ L H ∧ VRel K μ H a x ∧ tyTag L a = some t ∧ ans t = some b ∧ Q (.bl b) H
theorem cr_isiL {cV : V} {cv : Value} {ans : Nat → Option Bool} (kc : ClsV cV cv) (T : IsiT X.K G cv ans) : CallR X (.builtin "isinstance") (rIsiL X.K X.w G cV ans) := by
  intro pins s σ H xs us Q I r h
  obtain ⟨μ, L, a, x, t, b, rfl, hr, ra, ht, hb, q⟩ := h
  obtain ⟨u1, u2, rfl, r1, r2⟩ := vals2 r
  have e2 := kc.eq r2
  subst e2
  obtain ⟨P, Z, p, hx⟩ := kitL I hr ra r1 ht fun c e => T.cl c b (by rw [← e]; exact hb)
  exact PySem.W.kia_one Z I.kIn p (T.ok t b hb) hx fun tk => ⟨.bl b, H, I.tok tk, rfl, q⟩
def eIsi (ans : Nat → Option Bool) (m : Lm LV) : Lm LV := fun l L => (m l L).bind fun x L1 => match tyTag L1 x with
  | some t => (match ans t with
    | some b => .ok (.bl b) L1
    | none => .bad)
  | none => .bad
theorem je_isi {W : WX} {e ce : Expr} {p pos : Pos} {cV : V} {cv : Value} {ans : Nat → Option Bool} {m : Lm LV} (kc : ClsV cV cv) (T : IsiT X.K G cv ans) (hg : Gl X "isinstance") (hm : X.mg "isinstance" = none) (he : JE X G W e m) (hc : PE X ce (tC cV))
    (hs : starEach [e, ce] X.env = (false, eval e X.env) :: starEach [ce] X.env := by rfl) (hs2 : starEach [ce] X.env = (false, eval ce X.env) :: starEach [] X.env := by rfl) (hpl : (backTo pos (starEach [ce] X.env)).any (·.1) = false := by rfl) :
    JE X G W (.Call (.Name "isinstance" p) [e, ce] [] pos) (eIsi ans m) := PE.imp (pe_callB (cr_isiL kc T) hg hm PyProof.Rows.boot_isinstance (pa_cons he (pa_cons hc pa_nil hs2) hs) (by decide) (by decide) hs hpl) fun σ H Q ⟨μ, l, L, s, h, o⟩ =>
  (TX.bind (R := RV X.K) s h o).mono fun v H1 ⟨μ1, L1, x, le, s1, h1, r1, o1⟩ => by
    dsimp only at o1
    split at o1
    · rename_i t ht
      split at o1
      · rename_i b hb
        exact ⟨μ1, L1, x, v, t, b, rfl, h1, r1, ht, hb, Out.here o1 h1 rfl⟩
      · exact o1.elim
    · exact o1.elim
/-- isinstance(x, (c, d)) -/
structure IsiT2 (K : PySem.W.Frag) (G : Gm) (cvs : List Value) (ans : Nat → Option Bool) : Prop where
  ok : ∀ t b, ans t = some b → PySem.W.kitAny K (tyVal G t) cvs = some b
  cl : ∀ c b, ans (7 + c) = some b → ClsK K (G.cls c)
def rIsiL2 (K : PySem.W.Frag) (w : World) (G : Gm) (cVs : List V) (ans : Nat → Option Bool) : List V → Hp → VK → Prop := fun vs H Q => ∃ μ L a x t b tp, vs = [x, .ref tp] ∧ H tp = some (.tup cVs) ∧ HRel G w K μ L H ∧ VRel K μ H a x ∧ tyTag L a = some t ∧ ans t = some b ∧ Q (.bl b) H
theorem cr_isiL2 {cVs : List V} {cvs : List Value} {ans : Nat → Option Bool} (kc : Paired ClsV cVs cvs) (T : IsiT2 X.K G cvs ans) : CallR X (.builtin "isinstance") (rIsiL2 X.K X.w G cVs ans) := by
  intro pins s σ H xs us Q I r h
  obtain ⟨μ, L, a, x, t, b, tp, rfl, hT, hr, ra, ht, hb, q⟩ := h
  obtain ⟨u1, u2, rfl, r1, r2⟩ := vals2 r
  cases (show u2 = Value.ref tp from r2)
  obtain ⟨P, Z, p, hx⟩ := kitL I hr ra r1 ht fun c e => T.cl c b (by rw [← e]; exact hb)
  obtain ⟨_, its, rv, o, h1, h2, n, h3⟩ := (show ObjOk X.prog X.w H s.heap tp (.tup cVs) from I.hok tp _ hT)
  have e3 := ClsV.all kc rv
  subst e3
  obtain ⟨oc, od, dt, sl⟩ := o
  simp only at h2 h3
  subst h2 h3
  exact PySem.W.kia_tup Z I.kIn p h1 (T.ok t b hb) hx fun tk => ⟨.bl b, H, I.tok tk, rfl, q⟩
theorem je_isi2 {W : WX} {e c1 c2 : Expr} {p pos tpos : Pos} {kk} {v1 v2 : V} {w1 w2 : Value} {ans : Nat → Option Bool} {m : Lm LV} (k1 : ClsV v1 w1) (k2 : ClsV v2 w2) (T : IsiT2 X.K G [w1, w2] ans) (hg : Gl X "isinstance") (hm : X.mg "isinstance" = none) (he : JE X G W e m) (h1 : PE X c1 (tC v1)) (h2 : PE X c2 (tC v2))
    (hs : starEach [e, .Tuple [c1, c2] kk tpos] X.env = (false, eval e X.env) :: starEach [.Tuple [c1, c2] kk tpos] X.env := by rfl) (hs2 : starEach [.Tuple [c1, c2] kk tpos] X.env = (false, eval (.Tuple [c1, c2] kk tpos) X.env) :: starEach [] X.env := by rfl) (hs3 : starEach [c1, c2] X.env = (false, eval c1 X.env) :: starEach [c2] X.env := by rfl) (hs4 : starEach [c2] X.env = (false, eval c2 X.env) :: starEach [] X.env := by rfl)
    (hpl : (backTo pos (starEach [.Tuple [c1, c2] kk tpos] X.env)).any (·.1) = false := by rfl) :
    JE X G W (.Call (.Name "isinstance" p) [e, .Tuple [c1, c2] kk tpos] [] pos) (eIsi ans m) := PE.imp (pe_callB (cr_isiL2 (.cons k1 (.cons k2 .nil)) T) hg hm PyProof.Rows.boot_isinstance (pa_cons he (pa_cons (pe_tup (pa_cons h1 (pa_cons h2 pa_nil hs4) hs3)) pa_nil hs2) hs) (by decide) (by decide) hs hpl) fun σ H Q ⟨μ, l, L, s, h, o⟩ =>
  (TX.bind (R := RV X.K) s h o).mono fun v H1 ⟨μ1, L1, x, le, s1, h1, r1, o1⟩ => by
    dsimp only at o1
    split at o1
    · rename_i t ht
      split at o1
      · rename_i b hb
        refine ⟨by show 2 ≤ sizeLine; rw [sizeLine_eq]; omega, fun tp hp => ?_⟩
        obtain ⟨le2, h2⟩ := h1.tup hp (.tup [v1, v2])
        exact ⟨μ1, L1, x, v, t, b, tp, rfl, upd_same, h2, VRel.le le2 x r1, ht, hb, o1 μ1 _ _ le2 h2 rfl⟩
      · exact o1.elim
    · exact o1.elim
end
/-- two built-in types -/
def isiB (T : Nat) (t : Nat) : Option Bool := if t < 7 then some (Nat.beq t T || (Nat.beq T 2 && Nat.beq t 1)) else none
end LT

set_option Elab.async false
set_option linter.all false
set_option autoImplicit false
set_option maxRecDepth 100000
set_option maxHeartbeats 4000000
namespace LT
open PySem PySem.Spec L2

/-! ### methods of built-in types -/
abbrev OpM := LV → OpN
def MtL (G : Gm) (w : World) (K : PySem.W.Frag) (r : OpM) : V → List V → Hp → VK → Prop := fun x xs H Q => ∃ μ L a as, HRel G w K μ L H ∧ VRel K μ H a x ∧ VRels K μ H as xs ∧ OutO (RV K) G w K Q μ L H (r a as L)
abbrev JMt (X : Cx) (G : Gm) (id : String) (r : OpM) : Prop := MtR X id (MtL G X.w X.K r)
def eBm (t : Nat) (r : OpM) (mo : Lm LV) (ma : Lm (List LV)) : Lm LV := fun l L => (mo l L).bind fun x L1 => match tyTag L1 x with
  | some u => if Nat.beq u t = true then (ma l L1).bind fun xs L2 => ofO (r x xs L2) else .bad
  | none => .bad
section
variable {X : Cx} {G : Gm} {W : WX}
theorem tyL {pins : List (Addr × Obj)} {s : Shared} {σ : St} {H : Hp} {μ : List Addr} {L : LH} {a : LV} {x : V} {v : Value} {t : Nat} (I : Inv X pins σ H s) (hr : HRel G X.w X.K μ L H) (ra : VRel X.K μ H a x) (rx : RelV x v) (ht : tyTag L a = some t) (h3 : t = 3 ∨ t = 5 ∨ t = 6) :
    s.TypeIs v (tyName t) ∧ ∀ p, v = .ref p → ∃ ob, s.heap.get? p = some ob ∧ ob.dict = none := by
  cases a with
  | non => cases ht; omega
  | bl b => cases ht; omega
  | int i => cases ht; omega
  | tup xs => cases ht; omega
  | str z => cases ht; cases ra; exact tyV_is I rx (T := "str") rfl
  | ref n =>
    obtain ⟨p, hp, rfl⟩ := ra
    unfold tyTag at ht
    dsimp only at ht
    cases hn : L[n]? with
    | none => rw [hn] at ht; cases ht
    | some ob =>
      rw [hn] at ht
      cases ob with
      | lst zs =>
        cases ht
        obtain ⟨vs, e, _⟩ := hr.obj n p _ hp hn
        exact tyV_is I rx (T := "list") (.inl ⟨rfl, vs, SqL.of e⟩)
      | fz zs =>
        cases ht
        obtain ⟨o, vs, e, _⟩ := hr.obj n p _ hp hn
        exact tyV_is I rx (T := "list") (.inl ⟨rfl, vs, .inl (.inr ⟨o, e⟩)⟩)
      | dct vv kvs =>
        cases ht
        obtain ⟨o, e, _, d⟩ := hr.obj n p _ hp hn
        cases rx
        refine ⟨⟨o, dX_at I.hok e, d.ex.1⟩, fun q e2 => ?_⟩
        cases e2
        exact ⟨o, dX_at I.hok e, d.ex.2.1⟩
      | obj c fs => cases ht; omega
variable {o e : Expr} {es : List Expr} {mo : Lm LV} {ma : Lm (List LV)} {name : Str} {apos cpos : Pos} {t : Nat} {id : String} {r : OpM}
theorem je_bm (h3 : t = 3 ∨ t = 5 ∨ t = 6) (pa : PlainAttrs (tyName t)) (slot : Slot (tyName t) name id) (hty : typeOf (.builtin id) = pure (.type "method_descriptor")) (hm : JMt X G id r) (ho : JE X G W o mo) (ha : JA X G W (e :: es) ma)
    (hbase : attributeBase o name X.env (eval o X.env) = eval o X.env := by rfl)
    (hfew : ((backTo cpos (starEach (e :: es) X.env)).all (fun x => !x.1) && (backToKw cpos (keywordEach [] X.env)).all (fun x => x.1.isSome)
      && decide ((e :: es).length + ([] : List Keyword).length + (if ([] : List Keyword).isEmpty then 0 else 1) < 30)) = true := by rfl)
    (hline : (apos.endLine == cpos.line) = true := by rfl) (hs : starEach (e :: es) X.env = (false, eval e X.env) :: starEach es X.env := by rfl) (hplain : (backTo cpos (starEach es X.env)).any (·.1) = false := by rfl) :
    JE X G W (.Call (.Attribute o name apos) (e :: es) [] cpos) (eBm t r mo ma) := by
  refine ⟨fun pins s σ H Q I ⟨μ, l, L, sr, h, o⟩ => ?_⟩
  refine wpAny_Call_method_late hbase hfew hline rfl (thn (ho.run pins s σ H _ I (TX.bind (R := RV X.K) sr h o)) fun v s1 ⟨x, H1, I1, rx, μ1, L1, a, le, s1', h1, ra, o1⟩ => ?_)
  dsimp only at o1
  split at o1
  · rename_i u hu
    split at o1
    · rename_i hb
      have e := nbeq.mp hb
      subst e
      obtain ⟨q1, q2⟩ := tyL I1 h1 ra rx hu h3
      refine ⟨tyName u, id, pa, slot, hty, q1, q2, ?_⟩
      have hA := ha.run cpos pins s1 σ H1 _ I1 (TX.bind (R := RVs X.K) s1' h1 o1)
      rw [hs] at hA ⊢
      refine Calls.callWith_builtin (by show (false || (backTo cpos (starEach es X.env)).any (·.1)) = false; rw [hplain] <;> rfl) (Calls.evalArgs_plain ?_)
      exact thn hA fun us s2 ⟨vs, H2, I2, r2, μ2, L2, xs, le2, s2', h2, r2', o2⟩ => hm pins s2 σ H2 x vs v us Q I2 rx r2 ⟨μ2, L2, a, xs, h2, VRel.le le2 a ra, r2', OutO.of o2⟩
    · exact o1.elim
  · exact o1.elim
theorem je_bm0 (h3 : t = 3 ∨ t = 5 ∨ t = 6) (pa : PlainAttrs (tyName t)) (slot : Slot (tyName t) name id) (hty : typeOf (.builtin id) = pure (.type "method_descriptor")) (hm : JMt X G id r) (ho : JE X G W o mo)
    (hbase : attributeBase o name X.env (eval o X.env) = eval o X.env := by rfl) (hline : (apos.endLine == cpos.line) = true := by rfl) :
    JE X G W (.Call (.Attribute o name apos) [] [] cpos) (eBm t r mo aNil) := by
  refine ⟨fun pins s σ H Q I ⟨μ, l, L, sr, h, o⟩ => ?_⟩
  refine wpAny_Call_method0_late hbase hline (thn (ho.run pins s σ H _ I (TX.bind (R := RV X.K) sr h o)) fun v s1 ⟨x, H1, I1, rx, μ1, L1, a, le, s1', h1, ra, o1⟩ => ?_)
  dsimp only at o1
  split at o1
  · rename_i u hu
    split at o1
    · rename_i hb
      have e := nbeq.mp hb
      subst e
      obtain ⟨q1, q2⟩ := tyL I1 h1 ra rx hu h3
      exact ⟨tyName u, id, pa, slot, hty, q1, q2, Calls.callWith_builtin rfl (PySem.evalArgs_none (hm pins s1 σ H1 x [] v [] Q I1 rx .nil ⟨μ1, L1, a, [], h1, ra, rfl, OutO.of o1⟩))⟩
    · exact o1.elim
  · exact o1.elim

/-! ### lists -/
def lAppend : OpM
  | .ref n, [y], L => match L[n]? with
    | some (.lst xs) => if Nat.blt xs.length sizeLine = true then some (.non, L.set n (.lst (xs ++ [y]))) else none
    | _ => none
  | _, _, _ => none
theorem jm_append : JMt X G "list.append" lAppend := by
  intro pins s σ H x xs v us Q I rx rs h
  obtain ⟨μ, L, a, as, hr, ra, ras, o⟩ := h
  unfold lAppend at o
  split at o
  · split at o
    · rename_i n y _ ys hn
      split at o
      · rename_i hz
        obtain ⟨p, hp, rfl⟩ := ra
        obtain ⟨y', q, rfl, ry, rfl⟩ := ras
        obtain ⟨vs, e, rv⟩ := hr.obj n p _ hp hn
        exact mt_append pins s σ H _ _ v us Q I rx rs ⟨p, vs, y', rfl, rfl, e, by rw [rv.length]; exact Nat.blt_eq.mp hz, OutO.setL o hr hn hp (rv.append (VRels.one ry)) rfl⟩
      · exact o.elim
    · exact o.elim
  · exact o.elim
theorem VRels.eraseIdx {K : PySem.W.Frag} {μ : List Addr} {H : Hp} : ∀ (k : Nat) {xs : List LV} {vs : List V}, VRels K μ H xs vs → VRels K μ H (xs.eraseIdx k) (vs.eraseIdx k)
  | _, [], _, h => by cases h; rfl
  | 0, x :: xs, _, h => by obtain ⟨v, q, rfl, _, h2⟩ := h; exact h2
  | k + 1, x :: xs, _, h => by
    obtain ⟨v, q, rfl, h1, h2⟩ := h
    exact ⟨v, q.eraseIdx k, rfl, h1, VRels.eraseIdx k h2⟩
theorem VRels.dropLast {K : PySem.W.Frag} {μ : List Addr} {H : Hp} : ∀ {xs : List LV} {vs : List V}, VRels K μ H xs vs → VRels K μ H xs.dropLast vs.dropLast
  | [], _, h => by cases h; rfl
  | [x], _, h => by obtain ⟨v, q, rfl, _, h2⟩ := h; cases h2; rfl
  | x :: y :: xs, _, h => by
    obtain ⟨v, q, rfl, h1, v2, q2, rfl, h2, h3⟩ := h
    exact ⟨v, _, rfl, h1, VRels.dropLast (xs := y :: xs) ⟨v2, q2, rfl, h2, h3⟩⟩
def lPop : OpM
  | .ref n, [], L => match L[n]? with
    | some (.lst xs) => (match xs[xs.length - 1]? with
      | some y => some (y, L.set n (.lst xs.dropLast))
      | none => none)
    | _ => none
  | .ref n, [.int i], L => match L[n]? with
    | some (.lst xs) => if fit62 i = true then (match seqIndex? i xs.length with
      | some k => (match xs[k]? with
        | some y => some (y, L.set n (.lst (xs.eraseIdx k)))
        | none => none)
      | none => none) else none
    | _ => none
  | _, _, _ => none
theorem jm_pop : JMt X G "list.pop" lPop := by
  intro pins s σ H x xs v us Q I rx rs h
  obtain ⟨μ, L, a, as, hr, ra, ras, o⟩ := h
  unfold lPop at o
  split at o
  · split at o
    · rename_i n _ ys hn
      split at o
      · rename_i y hy
        obtain ⟨p, hp, rfl⟩ := ra
        cases ras
        obtain ⟨vs, e, rv⟩ := hr.obj n p _ hp hn
        obtain ⟨u, hu, ru⟩ := rv.get hy
        exact mt_pop pins s σ H _ _ v us Q I rx rs ⟨p, vs, u, rfl, rfl, e, by rw [rv.length]; exact hu, OutO.setL o hr hn hp rv.dropLast ru⟩
      · exact o.elim
    · exact o.elim
  · split at o
    · rename_i n i _ ys hn
      split at o
      · rename_i hf
        split at o
        · rename_i k hk
          split at o
          · rename_i y hy
            obtain ⟨p, hp, rfl⟩ := ra
            obtain ⟨y', q, rfl, ry, rfl⟩ := ras
            cases ry
            obtain ⟨vs, e, rv⟩ := hr.obj n p _ hp hn
            obtain ⟨u, hu, ru⟩ := rv.get hy
            obtain ⟨f1, f2⟩ := fit62_ok hf
            exact mt_popAt pins s σ H _ _ v us Q I rx rs ⟨p, vs, i, k, u, rfl, rfl, e, by omega, by omega, by rw [rv.length]; exact hk, hu, OutO.setL o hr hn hp (rv.eraseIdx k) ru⟩
          · exact o.elim
        · exact o.elim
      · exact o.elim
    · exact o.elim
  · exact o.elim
/-- the place of an int in a row of ints -/
def idxI (k : Int) : List Int → Option Nat
  | [] => none
  | x :: r => if x = k then some 0 else (match idxI k r with
    | some j => some (j + 1)
    | none => none)
theorem idxI_is {k : Int} : ∀ {ns : List Int} {j : Nat}, idxI k ns = some j → ns[j]? = some k ∧ ∀ m, m < j → ns[m]? ≠ some k
  | [], j, h => by cases h
  | x :: r, j, h => by
    unfold idxI at h
    split at h
    · rename_i e
      cases h
      subst e
      exact ⟨rfl, fun m hm => by omega⟩
    · rename_i e
      split at h
      · rename_i i hi
        cases h
        obtain ⟨a, b⟩ := idxI_is hi
        refine ⟨a, fun m hm => ?_⟩
        cases m with
        | zero => simp; exact e
        | succ m => exact b m (by omega)
      · cases h
def lIndex : OpM
  | .ref n, [.int k], L => match lstAt L n with
    | some xs => (match intsOf xs with
      | some ns => (match idxI k ns with
        | some j => some (.int (j : Nat), L)
        | none => none)
      | none => none)
    | none => none
  | _, _, _ => none
theorem jm_index : JMt X G "list.index" lIndex := by
  intro pins s σ H x xs v us Q I rx rs h
  obtain ⟨μ, L, a, as, hr, ra, ras, o⟩ := h
  unfold lIndex at o
  split at o
  · split at o
    · rename_i n k _ ys hl
      split at o
      · rename_i ns hb
        split at o
        · rename_i j hj
          obtain ⟨p, hp, rfl⟩ := ra
          obtain ⟨y', q, rfl, ry, rfl⟩ := ras
          cases ry
          obtain ⟨a', vs, ha', sq, rv⟩ := hr.lst hl
          rw [hp] at ha'
          cases ha'
          rw [intsOf_rel hb rv] at sq
          obtain ⟨h1, h2⟩ := idxI_is hj
          refine mt_index pins s σ H _ _ v us Q I rx rs ⟨p, _, .int k, j, .int k, rfl, rfl, sq, rfl, ?_, by rw [List.getElem?_map, h1]; rfl, ?_, fun m z' hm hz => ?_, o.here hr rfl⟩
          · rw [List.all_eq_true]
            intro z hz
            obtain ⟨i, _, rfl⟩ := List.mem_map.mp hz
            rfl
          · show L2.eqV (.int k) (.int k) = true
            simp [L2.eqV]
          · rw [List.getElem?_map] at hz
            cases hq : ns[m]? with
            | none => rw [hq] at hz; cases hz
            | some i =>
              rw [hq] at hz
              cases hz
              have : i ≠ k := fun e => h2 m hm (by rw [hq, e])
              show L2.eqV (.int i) (.int k) = false
              simp [L2.eqV, this]
        · exact o.elim
      · exact o.elim
    · exact o.elim
  · exact o.elim
def lRemove : OpM
  | .ref n, [y], L => match L[n]? with
    | some (.lst xs) => (match dat L (.ref n), dat L y with
      | some (.list ds), some d => (match SeqAt.dataPlace ds d with
        | some j => if (PyData.plainAll ds && d.plain) = true then some (.non, L.set n (.lst (xs.eraseIdx j))) else none
        | none => none)
      | _, _ => none)
    | _ => none
  | _, _, _ => none
end
end LT

set_option Elab.async false
set_option linter.all false
set_option autoImplicit false
set_option maxRecDepth 100000
set_option maxHeartbeats 4000000
namespace LT
open PySem PySem.Spec L2
section
variable {X : Cx} {G : Gm} {W : WX}
theorem vals_erase {xs : List V} {us : List Value} (r : Vals xs us) : ∀ j : Nat, Vals (xs.eraseIdx j) (us.eraseIdx j) := by
  induction r with
  | nil => intro j; exact .nil
  | cons h t ih =>
    intro j
    cases j with
    | zero => exact t
    | succ j => exact .cons h (ih j)
theorem jm_remove (hu : X.A.units + 70 < cLine) : JMt X G "list.remove" lRemove := by
  intro pins s σ H x xs v us Q I rx rs h
  obtain ⟨μ, L, a, as, hr, ra, ras, o⟩ := h
  unfold lRemove at o
  split at o
  · split at o
    · rename_i n y _ ys hn
      split at o
      · rename_i ds d hd1 hd2
        split at o
        · rename_i j hj
          split at o
          · rename_i hpl
            rw [Bool.and_eq_true_iff] at hpl
            obtain ⟨p, hp, rfl⟩ := ra
            obtain ⟨y', q, rfl, ry, rfl⟩ := ras
            obtain ⟨vs, e, rv⟩ := hr.obj n p _ hp hn
            obtain ⟨hz, its, k, rvals, hlen, hget⟩ := I.lstM e
            cases rx
            obtain ⟨u, rfl, ru⟩ := rs.one
            obtain ⟨p1, s1⟩ := dat_dp hr hd1 (show VRel X.K μ H (.ref n) (.ref p) from ⟨p, hp, rfl⟩)
            obtain ⟨p2, s2⟩ := dat_dp hr hd2 ry
            have dp2 := dat_depth hd2
            obtain ⟨bs, r2⟩ := Dp.reads I d y' u p2 ru
            cases p1 with
            | lst sq dall =>
              obtain ⟨its2, rv2, pl, hz2⟩ := I.list sq
              obtain ⟨as1, r1⟩ := Dp.readsAll I _ _ _ dall rv2
              have hl := pl.isList
              obtain ⟨o2, ho2, hc2, n2, hd2'⟩ := pl.isList
              rw [hget] at ho2
              cases ho2
              cases hd2'
              refine SeqAt.remove_list_data (vs := its.toArray) hl (by simpa using r1) r2 hpl.1 hpl.2 (by have := Nat.min_le_right (PyData.depthAll ds) d.depth; omega) hj (by simpa [← hlen] using hz) ?_
              have I2 := I.lset (t' := s.toks) (f := fun ys => ys.eraseIdxIfInBounds j) (its' := its.eraseIdx j) (ys := vs.eraseIdx j) e hget (by simp) (vals_erase rvals j) (Nat.le_trans (by rw [List.length_eraseIdx]; split <;> omega) hz)
              exact ⟨.non, _, I2, rfl, OutO.setL o hr hn hp (rv.eraseIdx j) rfl⟩
          · exact o.elim
        · exact o.elim
      · exact o.elim
    · exact o.elim
  · exact o.elim
/-! ### dicts -/
def dGet : OpM
  | .ref n, [k, z], L => match L[n]? with
    | some (.dct _ kvs) => if dkey kvs k = true then some ((dget kvs k).getD z, L) else none
    | _ => none
  | _, _, _ => none
theorem jm_get (hu : X.A.units + 64 < cLine) : JMt X G "dict.get" dGet := by
  intro pins s σ H x xs v us Q I rx rs h
  obtain ⟨μ, L, a, as, hr, ra, ras, o⟩ := h
  unfold dGet at o
  split at o
  · split at o
    · rename_i n k z _ vv kvs hn
      split at o
      · rename_i hk
        obtain ⟨p, hp, rfl⟩ := ra
        obtain ⟨k', q, rfl, rk, z', q2, rfl, rz, rfl⟩ := ras
        cases rx
        obtain ⟨u1, u2, rfl, r1, r2⟩ := vals2 rs
        exact ld_get2 hu I hr hn hp rk r1 hk rz r2 fun s' v' w' I' rv rw' => ⟨v', H, I', rw', o.here hr rv⟩
      · exact o.elim
    · exact o.elim
  · exact o.elim
def dSetdef : OpM
  | .ref n, [k, z], L => match L[n]? with
    | some (.dct vv kvs) => if (dkey kvs k && Nat.blt kvs.length sizeLine) = true then (match dget kvs k with
      | some y => some (y, L)
      | none => some (z, L.set n (.dct (vv + 1) (dput kvs k z)))) else none
    | _ => none
  | _, _, _ => none
theorem jm_setdefault (hu : X.A.units + 64 < cLine) : JMt X G "dict.setdefault" dSetdef := by
  intro pins s σ H x xs v us Q I rx rs h
  obtain ⟨μ, L, a, as, hr, ra, ras, o⟩ := h
  unfold dSetdef at o
  split at o
  · split at o
    · rename_i n k z _ vv kvs hn
      split at o
      · rename_i hk
        rw [Bool.and_eq_true_iff] at hk
        obtain ⟨p, hp, rfl⟩ := ra
        obtain ⟨k', q, rfl, rk, z', q2, rfl, rz, rfl⟩ := ras
        cases rx
        obtain ⟨u1, u2, rfl, r1, r2⟩ := vals2 rs
        refine ld_setdef hu I hr hn hp rk r1 hk.1 rz r2 (Nat.blt_eq.mp hk.2) (fun y s' v' w' ey I' rv rw' => ?_) fun ey s' o' I' le hr' => ?_
        · rw [ey] at o
          exact ⟨v', H, I', rw', o.here hr rv⟩
        · rw [ey] at o
          exact ⟨z', _, I', r2, o μ _ _ le hr' (VRel.le le z rz)⟩
      · exact o.elim
    · exact o.elim
  · exact o.elim
/-! hash without texts -/
mutual
def noTx : NestedKey → Bool
  | .text _ => false
  | .tup ks => noTxs ks
  | _ => true
def noTxs : List NestedKey → Bool
  | [] => true
  | k :: ks => noTx k && noTxs ks
end
mutual
def hashF : NestedKey → Int
  | .none => reduceHash 0xFCA86420
  | .num i => hashInt i
  | .text _ => 0
  | .tup ks => reduceHash (Builtin.Tuple.tupleHashOf (hashFs ks))
def hashFs : List NestedKey → List Int
  | [] => []
  | k :: ks => hashF k :: hashFs ks
end
mutual
theorem hashF_eq (w : World) : ∀ k : NestedKey, noTx k = true → k.hash w = hashF k
  | .none, _ => rfl
  | .num _, _ => rfl
  | .text _, h => by cases h
  | .tup ks, h => by
    unfold noTx at h
    unfold NestedKey.hash hashF
    rw [hashFs_eq w ks h]
theorem hashFs_eq (w : World) : ∀ ks : List NestedKey, noTxs ks = true → NestedKey.hashes w ks = hashFs ks
  | [], _ => rfl
  | k :: ks, h => by
    unfold noTxs at h
    rw [Bool.and_eq_true_iff] at h
    unfold NestedKey.hashes hashFs
    rw [hashF_eq w k h.1, hashFs_eq w ks h.2]
end
def nodupI : List Int → Bool
  | [] => true
  | x :: r => !(r.any fun y => decide (y = x)) && nodupI r
theorem nodupI_ok : ∀ {l : List Int}, nodupI l = true → l.Nodup
  | [], _ => .nil
  | x :: r, h => by
    unfold nodupI at h
    rw [Bool.and_eq_true_iff, Bool.not_eq_true'] at h
    refine List.nodup_cons.mpr ⟨fun m => ?_, nodupI_ok h.2⟩
    have := List.any_eq_false.mp h.1 x m
    simp at this
def apartB (kvs : List (LV × LV)) : Bool := (kvs.all fun p => noTx (nk p.1)) && nodupI (kvs.map fun p => hashF (nk p.1))
def dputs (kvs more : List (LV × LV)) : List (LV × LV) := more.foldl (fun acc p => dput acc p.1 p.2) kvs
theorem tputs {K : PySem.W.Frag} {μ : List Addr} {H : Hp} : ∀ {more : List (LV × LV)} {ys : List (NestedKey × Addr × Value)} {kvs : List (LV × LV)} {xs : List (NestedKey × Addr × Value)}, Paired (TRel K μ H) kvs xs → (kvs.map fun p => nk p.1).Nodup → Paired (TRel K μ H) more ys →
    Paired (TRel K μ H) (dputs kvs more) (storedAllH xs ys)
  | _, _, kvs, xs, p, nd, .nil => p
  | q :: more, y :: ys, kvs, xs, p, nd, .cons r t => by
    obtain ⟨e, rk, ⟨v, rv, ru⟩, ok, it⟩ := r
    have h1 := tput rk rv ru ok it p nd
    rw [← e] at h1
    show Paired (TRel K μ H) (dputs (dput kvs q.1 q.2) more) (storedAllH (storedH xs y.1 y.2.1 y.2.2) ys)
    exact tputs h1 (dput_nodup nd) t
theorem lputs {K : PySem.W.Frag} {μ : List Addr} {H : Hp} : ∀ {more : List (LV × LV)} {ys : List (Key × Value)} {kvs : List (LV × LV)} {xs : List (Key × Value)}, Paired (LRel K μ H) kvs xs → (kvs.map fun p => nk p.1).Nodup → Paired (LRel K μ H) more ys →
    Paired (LRel K μ H) (dputs kvs more) (merged xs ys)
  | _, _, kvs, xs, p, nd, .nil => p
  | q :: more, y :: ys, kvs, xs, p, nd, .cons r t => by
    obtain ⟨e, v, rv, ru⟩ := r
    show Paired (LRel K μ H) (dputs (dput kvs q.1 q.2) more) (merged (stored xs y.1 y.2) ys)
    exact lputs (lput e rv ru p nd) (dput_nodup nd) t
theorem dputs_len : ∀ (more kvs : List (LV × LV)), (dputs kvs more).length ≤ kvs.length + more.length
  | [], _ => Nat.le_refl _
  | p :: more, kvs => by
    have h1 := dputs_len more (dput kvs p.1 p.2)
    have h2 := dput_len p.1 p.2 kvs
    show (dputs (dput kvs p.1 p.2) more).length ≤ _
    rw [List.length_cons]
    omega
def dUpdate : OpM
  | .ref n, [.ref m], L => match L[n]?, L[m]? with
    | some (.dct vv kvs), some (.dct _ more) => if (!Nat.beq n m && (kvs.all fun p => isTup p.1) && (more.all fun p => isTup p.1) && (!kvs.isEmpty || apartB more) && Nat.ble (kvs.length + more.length) sizeLine) = true then some (.non, L.set n (.dct (vv + 1) (dputs kvs more))) else none
    | _, _ => none
  | _, _, _ => none
theorem jm_update (hu : X.A.units + 64 < cLine) : JMt X G "dict.update" dUpdate := by
  intro pins s σ H x xs v us Q I rx rs h
  obtain ⟨μ, L, a, as, hr, ra, ras, o⟩ := h
  unfold dUpdate at o
  split at o
  · split at o
    · rename_i n m _ _ vv kvs v2 more hn hm
      split at o
      · rename_i hk
        simp only [Bool.and_eq_true_iff, Bool.or_eq_true_iff, Bool.not_eq_true'] at hk
        obtain ⟨⟨⟨⟨h1, h2⟩, h3⟩, h4⟩, h5⟩ := hk
        obtain ⟨p, hp, rfl⟩ := ra
        obtain ⟨q', _, rfl, ⟨q, hq, rfl⟩, rfl⟩ := ras
        cases rx
        obtain ⟨u, rfl, rx⟩ := rs.one
        cases rx
        obtain ⟨o1, ho1, m1, d1⟩ := dct_of hr hn hp
        obtain ⟨o2, ho2, m2, d2⟩ := dct_of hr hm hq
        obtain ⟨ys, dd1, pt1, hx1⟩ := d1.tup I ho1 h2
        obtain ⟨zs, dd2, pt2, hx2⟩ := d2.tup I ho2 h3
        have hpq : p ≠ q := fun e => by
          subst e
          have := (List.getElem?_inj (List.getElem?_eq_some_iff.mp hp).1 hr.nd).mp (hp.trans hq.symm)
          subst this
          rw [Nat.beq_refl] at h1
          cases h1
        have l1 := pt1.length
        have l2 := pt2.length
        have h5' := Nat.le_of_ble_eq_true h5
        refine call_update_dictH (show X.A.units + 1 + 8 < cLine by omega) hpq m2 dd1 dd2 ?_ (by omega) fun h' dd' _ hs => ?_
        · rcases h4 with z | z
          · exact .inl fun e => by
              subst e
              cases pt1
              cases z
          · refine .inr ⟨fun w' hw => ?_, ?_⟩
            · obtain ⟨b, hb, r⟩ := paired_right pt2 hw
              obtain ⟨e, rk, _, ok, it⟩ := r
              cases hb1 : b.1 with
              | tup ts =>
                rw [hb1] at rk
                obtain ⟨a1, vs1, e1, sq, _⟩ := rk
                cases e1
                obtain ⟨its, _, ⟨ob, g1, g2, _⟩, _⟩ := I.tuple sq
                exact ⟨ob, g1, g2⟩
              | _ => rw [hb1] at it; cases it
            · unfold apartB at z
              rw [Bool.and_eq_true_iff] at z
              have e1 : (zs.map fun x => (nestedKind X.prog X.w).hash x.1) = more.map fun p => hashF (nk p.1) := by
                have e2 := tkeys pt2
                have e3 : (zs.map fun x => (nestedKind X.prog X.w).hash x.1) = (zs.map (·.1)).map fun k => k.hash X.w := by rw [List.map_map]; rfl
                rw [e3, e2, List.map_map]
                refine List.map_congr_left fun b hb => ?_
                exact hashF_eq X.w _ (List.all_eq_true.mp z.1 b hb)
              rw [e1]
              exact nodupI_ok z.2
        · have hz' : (dputs kvs more).length ≤ sizeLine := Nat.le_trans (dputs_len more kvs) h5'
          obtain ⟨o', e, d'⟩ := DRel.ofT dd' (tputs pt1 d1.nd pt2) hz'
          obtain ⟨I', le, hr'⟩ := ld_write (t' := s.toks) I hr hn hp ho1 m1 hs e d'
          exact ⟨.non, _, I', rfl, o μ _ _ le hr' rfl⟩
      · exact o.elim
    · exact o.elim
  · exact o.elim
end
end LT

set_option Elab.async false
set_option linter.all false
set_option autoImplicit false
set_option maxRecDepth 100000
set_option maxHeartbeats 400000
namespace LT
open PySem PySem.Spec L2

/-! ### o[i] = v -/
def setI (o k y : LV) (L : LH) : Option LH := match o with
  | .ref n => (match L[n]? with
    | some (.dct vv kvs) => if (dkey kvs k && Nat.blt kvs.length sizeLine) = true then some (L.set n (.dct (vv + 1) (dput kvs k y))) else none
    | some (.lst xs) => (match k with
      | .int i => (match ixN xs.length i with
        | some j => some (L.set n (.lst (xs.set j y)))
        | none => none)
      | _ => none)
    | _ => none)
  | _ => none
def gSb (mo mi : Lm LV) : Lg := fun x l L => match mo l L with
  | .ok o L1 => (match mi l L1 with
    | .ok i L2 => (match setI o i x L2 with
      | some L3 => some (l, L3)
      | none => none)
    | _ => none)
  | _ => none
def SetR (G : Gm) (w : World) (K : PySem.W.Frag) : TSet := fun o i v H Q => ∃ μ L a b c, HRel G w K μ L H ∧ VRel K μ H a o ∧ VRel K μ H b i ∧ VRel K μ H c v ∧ match setI a b c L with
  | some L3 => ∀ μ' H', Le μ L H μ' L3 H' → HRel G w K μ' L3 H' → Q H'
  | none => False
theorem VRels.set {K : PySem.W.Frag} {μ : List Addr} {H : Hp} {y : LV} {u : V} (ry : VRel K μ H y u) : ∀ (j : Nat) {xs : List LV} {vs : List V}, VRels K μ H xs vs → VRels K μ H (xs.set j y) (vs.set j u)
  | _, [], _, h => by cases h; rfl
  | 0, x :: xs, _, h => by obtain ⟨v, q, rfl, _, h2⟩ := h; exact ⟨u, q, rfl, ry, h2⟩
  | j + 1, x :: xs, _, h => by
    obtain ⟨v, q, rfl, h1, h2⟩ := h
    exact ⟨v, q.set j u, rfl, h1, VRels.set ry j h2⟩
section
variable {X : Cx} {G : Gm} {W : WX} {pos : Pos} {o i e : Expr} {mo mi m : Lm LV}
theorem set_lt (hu : X.A.units + 64 < cLine) : PSet X (SetR G X.w X.K) := by
  intro pins s σ H o i v ov iv u Q I ro ri rv h
  obtain ⟨μ, L, a, b, c, hr, ra, rb, rc, q⟩ := h
  unfold setI at q
  split at q
  · rename_i L3 h3
    split at h3
    · rename_i n
      obtain ⟨p, hp, rfl⟩ := ra
      cases ro
      split at h3
      · rename_i vv kvs hn
        split at h3
        · rename_i hk
          cases h3
          rw [Bool.and_eq_true_iff] at hk
          exact ld_set hu I hr hn hp rb ri hk.1 rc rv (Nat.blt_eq.mp hk.2) fun s' o' I' le hr' => ⟨_, I', q μ _ le hr'⟩
        · cases h3
      · rename_i xs hn
        split at h3
        · rename_i k
          split at h3
          · rename_i j hj
            cases h3
            cases rb
            obtain ⟨vs, e, rvs⟩ := hr.obj n p _ hp hn
            refine set_list pins s σ H (.ref p) (.int k) v _ iv u Q I rfl ri rv ⟨p, vs, k, j, rfl, rfl, e, by rw [rvs.length]; exact hj, ?_⟩
            obtain ⟨le, h'⟩ := hr.obj_set hp (o := .lst (vs.set j v)) (u := .lst (xs.set j c)) (fun L' le => ⟨_, upd_same, VRels.le le _ (VRels.set rc j rvs)⟩) (fun v kvs e => by rw [hn] at e; cases e)
            exact q μ _ le h'
          · cases h3
        · cases h3
      · cases h3
    · cases h3
  · exact q.elim
theorem jg_sub (hu : X.A.units + 64 < cLine) (ho : JE X G W o mo) (hi : JE X G W i mi)
    (ha : ∀ v, assign (.Subscript o i pos) X.env v = (do
      let ov ← holding [v] (eval o X.env)
      let iv ← holding [v, ov] (eval i X.env)
      standAt pos
      holding [v, ov, iv] (setItem ov iv v)
      release [v, ov, iv] []) := by intro _; rfl) : JG X G (.Subscript o i pos) (gSb mo mi) := PG.imp (pg_sub ho hi (set_lt (G := G) hu) ha) fun v σ H Q ⟨μ, l, L, x, s, h, r, o⟩ => by
  unfold gSb at o
  refine ⟨μ, l, L, s, h, ?_⟩
  cases eo : mo l L with
  | ok y L1 =>
    rw [eo] at o
    intro μ1 v1 H1 le1 h1 r1
    refine ⟨μ1, l, L1, s.le le1, h1, ?_⟩
    dsimp only at o
    cases ei : mi l L1 with
    | ok z L2 =>
      rw [ei] at o
      intro μ2 v2 H2 le2 h2 r2
      refine ⟨μ2, L2, y, z, x, h2, VRel.le le2 y r1, r2, VRel.le (le1.trans le2) x r, ?_⟩
      dsimp only at o
      cases es : setI y z x L2 with
      | none => rw [es] at o; exact o
      | some L3 =>
        rw [es] at o
        exact fun μ3 H3 le3 h3 => o μ3 σ H3 ((le1.trans le2).trans le3) h3 (((s.le le1).le le2).le le3)
    | ex z L2 => rw [ei] at o; exact o.elim
    | bad => rw [ei] at o; exact o.elim
  | ex y L1 => rw [eo] at o; exact o.elim
  | bad => rw [eo] at o; exact o.elim

/-! ### a[lo:hi] -/
def RO : Rl (Option Int) (Option Int) := fun _ _ a b => b = a
abbrev JO (X : Cx) (G : Gm) (W : WX) (e : Option Expr) (m : Lm (Option Int)) : Prop := PO X e (TX RO G X.w X.K W m)
def oNone : Lm (Option Int) := fun _ L => .ok none L
def oSome (m : Lm LV) : Lm (Option Int) := fun l L => (m l L).bind fun x L1 => match x with
  | .int i => .ok (some i) L1
  | _ => .bad
theorem PO.imp {X : Cx} {e : Option Expr} {t t' : TO} (h : PO X e t) (k : ∀ σ H Q, t' σ H Q → t σ H Q) : PO X e t' := ⟨fun pins s σ H Q I q => h.run pins s σ H Q I (k σ H Q q)⟩
theorem jo_none : JO X G W none oNone := PO.imp po_none fun σ H Q ⟨μ, l, L, s, h, o⟩ => Out.here o h rfl
theorem jo_some (he : JE X G W e m) : JO X G W (some e) (oSome m) := PO.imp (po_some he) fun σ H Q ⟨μ, l, L, s, h, o⟩ => (TX.bind (R := RV X.K) s h o).mono fun v H1 ⟨μ1, L1, x, le, s1, h1, r1, o1⟩ => by
  cases x with
  | int i => exact ⟨i, r1, Out.here o1 h1 rfl⟩
  | _ => exact o1.elim
def cutL (xs : List LV) (lo hi : Option Int) : List LV := (xs.drop (HT.sIx xs.length 0 lo)).take (HT.sIx xs.length xs.length hi - HT.sIx xs.length 0 lo)
theorem VRels.cut {K : PySem.W.Frag} {μ : List Addr} {H : Hp} {xs : List LV} {vs : List V} (r : VRels K μ H xs vs) (lo hi : Option Int) : VRels K μ H (cutL xs lo hi) (cutV vs lo hi) := by
  unfold cutL cutV
  rw [r.length]
  exact VRels.take _ (VRels.drop _ r)
def slL (x : LV) (lo hi : Option Int) (L : LH) : Option (LV × LH) := match x with
  | .tup xs => some (.tup (cutL xs lo hi), L)
  | .str z => if z.length ≤ sizeLine then some (.str (cutS z lo hi), L) else none
  | .ref n => (match lstAt L n with
    | some xs => some (.ref L.length, L ++ [.lst (cutL xs lo hi)])
    | none => none)
  | _ => none
def eSl (m : Lm LV) (lo hi : Lm (Option Int)) : Lm LV := fun l L => (m l L).bind fun x L1 => (lo l L1).bind fun a L2 => (hi l L2).bind fun b L3 => ofO (slL x a b L3)
theorem sl_lt : SlR X fun x lo hi H Q => ∃ μ L a, HRel G X.w X.K μ L H ∧ VRel X.K μ H a x ∧ OutO (RV X.K) G X.w X.K Q μ L H (slL a lo hi L) := by
  intro pins s σ H x v vl vu lo hi sl Q I rx hs pl pu h
  obtain ⟨μ, L, a, hr, ra, o⟩ := h
  unfold slL at o
  split at o
  · have ra0 := ra
    obtain ⟨p, vs, rfl, sq, rv⟩ := ra
    refine sl_tupA pins s σ H _ v vl vu lo hi sl Q I rx hs pl pu ⟨p, vs, rfl, sq, fun e => ?_, fun _ q hq => OutO.tup o hr (rv.cut lo hi) q hq⟩
    refine o.here hr ⟨p, vs, rfl, sq, ?_⟩
    have hc := rv.cut lo hi
    have hw : cutV vs lo hi = vs := by
      unfold cutV
      rw [e.1, e.2, List.drop_zero, Nat.sub_zero, List.take_length]
    rw [hw] at hc
    exact hc
  · split at o
    · rename_i hz
      cases ra
      exact sl_str pins s σ H _ v vl vu lo hi sl Q I rx hs pl pu ⟨_, rfl, hz, o.here hr rfl⟩
    · exact o.elim
  · obtain ⟨p, hp, rfl⟩ := ra
    split at o
    · rename_i hl
      obtain ⟨a', vs, ha', sq, rv⟩ := hr.lst hl
      rw [hp] at ha'
      cases ha'
      exact sl_list pins s σ H _ v vl vu lo hi sl Q I rx hs pl pu ⟨p, vs, rfl, sq, fun q hq => OutO.lst o hr (rv.cut lo hi) q hq⟩
    · exact o.elim
  · exact o.elim
theorem je_slice {lo hi : Option Expr} {ml mh : Lm (Option Int)} {p2 : Pos} (he : JE X G W e m) (hl : JO X G W lo ml) (hh : JO X G W hi mh) : JE X G W (.Subscript e (.Slice lo hi none p2) pos) (eSl m ml mh) :=
  PE.imp (pe_slice (sl_lt (G := G)) he hl hh) fun σ H Q ⟨μ, l, L, s, h, o⟩ => (TX.bind (R := RV X.K) s h o).mono fun v H1 ⟨μ1, L1, x, le, s1, h1, r1, o1⟩ =>
    (TX.bind (R := RO) s1 h1 o1).mono fun a H2 ⟨μ2, L2, a', le2, s2, h2, r2, o2⟩ => (TX.bind (R := RO) s2 h2 o2).mono fun b H3 ⟨μ3, L3, b', le3, s3, h3, r3, o3⟩ => by
      cases r2
      cases r3
      exact ⟨μ3, L3, x, h3, VRel.le le3 x (VRel.le le2 x r1), OutO.of o3⟩
/-- xs[::-1] -/
def eRev (m : Lm LV) : Lm LV := fun l L => (m l L).bind fun x L1 => match x with
  | .ref n => (match lstAt L1 n with
    | some xs => .ok (.ref L1.length) (L1 ++ [.lst xs.reverse])
    | none => .bad)
  | _ => .bad
theorem je_rev {k : Nat} {p1 p2 p3 : Pos} (he : JE X G W e m) : JE X G W (.Subscript e (.Slice none none (some (.UnaryOp .USub (.Constant (.int 1) k p1) p2)) p3) pos) (eRev m) := PE.imp (pe_revL he) fun σ H Q ⟨μ, l, L, s, h, o⟩ => (TX.bind (R := RV X.K) s h o).mono fun v H1 ⟨μ1, L1, x, le, s1, h1, r1, o1⟩ => by
  cases x with
  | ref n =>
    obtain ⟨p, hp, rfl⟩ := r1
    dsimp only at o1
    split at o1
    · rename_i hl
      obtain ⟨a', vs, ha', sq, rv⟩ := h1.lst hl
      rw [hp] at ha'
      cases ha'
      exact ⟨p, vs, rfl, sq, fun q hq => OutO.lst (G := G) (w := X.w) (show OutO (RV X.K) G X.w X.K Q μ1 L1 H1 (some (.ref L1.length, L1 ++ [.lst _])) from o1) h1 rv.reverse q hq⟩
    · exact o1.elim
  | _ => exact o1.elim

/-! ### *e among arguments -/
def aStar (m : Lm LV) (r : Lm (List LV)) : Lm (List LV) := fun l L => (m l L).bind fun x L1 => match x with
  | .tup xs => (r l L1).bind fun ys L2 => .ok (xs ++ ys) L2
  | .ref n => (match lstAt L1 n with
    | some xs => (r l L1).bind fun ys L2 => .ok (xs ++ ys) L2
    | none => .bad)
  | _ => .bad
theorem ja_star {es : List Expr} {r : Lm (List LV)} {p : Pos} (he : JE X G W e m) (hs : JA X G W es r) (hst : starEach (.Starred e p :: es) X.env = (true, eval e X.env) :: starEach es X.env := by rfl) : JA X G W (.Starred e p :: es) (aStar m r) :=
  PA.imp (StX.pa_star he hs hst) fun σ H Q ⟨μ, l, L, s, h, o⟩ => (TX.bind (R := RV X.K) s h o).mono fun v H1 ⟨μ1, L1, x, le, s1, h1, r1, o1⟩ => by
    cases x with
    | tup xs =>
      obtain ⟨p, vs, rfl, sq, rv⟩ := r1
      exact ⟨p, vs, rfl, .inl sq, (TX.bind (R := RVs X.K) s1 h1 o1).mono fun us H2 ⟨μ2, L2, ys, le2, s2, h2, r2, o2⟩ => Out.here o2 h2 ((VRels.le le2 xs rv).append r2)⟩
    | ref n =>
      obtain ⟨p, hp, rfl⟩ := r1
      dsimp only at o1
      split at o1
      · rename_i xs hl
        obtain ⟨a', vs, ha', sq, rv⟩ := h1.lst hl
        rw [hp] at ha'
        cases ha'
        exact ⟨p, vs, rfl, .inr sq, (TX.bind (R := RVs X.K) s1 h1 o1).mono fun us H2 ⟨μ2, L2, ys, le2, s2, h2, r2, o2⟩ => Out.here o2 h2 ((VRels.le le2 xs rv).append r2)⟩
      · exact o1.elim
    | _ => exact o1.elim

/-! ### {k: v, ..} -/
def RPs (K : PySem.W.Frag) : Rl (List (LV × LV)) (List (V × V)) := fun μ H xs ps => Paired (fun (a : LV × LV) (b : V × V) => VRel K μ H a.1 b.1 ∧ VRel K μ H a.2 b.2) xs ps
structure JPs (X : Cx) (G : Gm) (W : WX) (pos : Pos) (keys : List (Option Expr)) (values : List Expr) (m : Lm (List (LV × LV))) : Prop where
  run : ∀ (pins : List (Addr × Obj)) (s : Shared) (σ : St) (H : Hp) (Q : List (V × V) → Hp → Prop), Inv X pins σ H s → TX (RPs X.K) G X.w X.K W m σ H Q →
    wpAny (model X.prog X.w) X.A (evalPairs (pairTrees keys values X.env pos)) (fun vs s' => ∃ ps H', Inv X pins σ H' s' ∧ VV ps vs ∧ Q ps H') X.xe s
def pNil : Lm (List (LV × LV)) := fun _ L => .ok [] L
def pCons (k v : Lm LV) (r : Lm (List (LV × LV))) : Lm (List (LV × LV)) := fun l L => (k l L).bind fun x L1 => (v l L1).bind fun y L2 => (r l L2).bind fun ps L3 => .ok ((x, y) :: ps) L3
theorem jp_nil : JPs X G W pos [] [] pNil := ⟨fun pins s σ H Q I ⟨μ, l, L, sr, h, o⟩ => pairTrees_nil_walk ⟨[], H, I, .nil, Out.here o h .nil⟩⟩
theorem jp_cons {k v : Expr} {ks : List (Option Expr)} {vs : List Expr} {mk mv : Lm LV} {r : Lm (List (LV × LV))} (hk : JE X G W k mk) (hv : JE X G W v mv) (hr : JPs X G W pos ks vs r) : JPs X G W pos (some k :: ks) (v :: vs) (pCons mk mv r) :=
  ⟨fun pins s σ H Q I ⟨μ, l, L, sr, h, o⟩ => pairTrees_cons_walk (thn (hk.run pins s σ H _ I (TX.bind (R := RV X.K) sr h o)) fun u1 s1 ⟨x1, H1, I1, rx1, μ1, L1, x, le1, sr1, h1, r1, o1⟩ =>
    thn (hv.run pins s1 σ H1 _ I1 (TX.bind (R := RV X.K) sr1 h1 o1)) fun u2 s2 ⟨x2, H2, I2, rx2, μ2, L2, y, le2, sr2, h2, r2, o2⟩ =>
      thn (hr.run pins s2 σ H2 _ I2 (TX.bind (R := RPs X.K) sr2 h2 o2)) fun us s3 ⟨ps, H3, I3, rel, μ3, L3, zs, le3, sr3, h3, r3, o3⟩ =>
        ⟨(x1, x2) :: ps, H3, I3, .cons ⟨rx1, rx2⟩ rel, Out.here o3 h3 (.cons ⟨VRel.le (le2.trans le3) x r1, VRel.le le3 y r2⟩ r3)⟩)⟩
def putAll (n : Nat) : List (LV × LV) → LH → Option LH
  | [], L => some L
  | (k, y) :: r, L => match L[n]? with
    | some (.dct vv kvs) => if (dkey kvs k && Nat.blt kvs.length sizeLine) = true then putAll n r (L.set n (.dct (vv + 1) (dput kvs k y))) else none
    | _ => none
def eDisp (m : Lm (List (LV × LV))) : Lm LV := fun l L => (m l (L ++ [.dct 0 []])).bind fun ps L2 => match putAll L.length ps L2 with
  | some L3 => .ok (.ref L.length) L3
  | none => .bad
theorem put_all {pins : List (Addr × Obj)} {σ : St} {D : Addr} {n : Nat} {Q : PUnit → Shared → Prop} {E : Value → Shared → Prop} (hu : X.A.units + 64 < cLine) (xs : List (LV × LV)) : ∀ {ps : List (V × V)} {us : List (Value × Value)} {L L3 : LH} {μ : List Addr} {H : Hp} {s : Shared}, Inv X pins σ H s → HRel G X.w X.K μ L H → μ[n]? = some D → RPs X.K μ H xs ps → VV ps us → putAll n xs L = some L3 →
    (∀ s' μ' H', Inv X pins σ H' s' → Le μ L H μ' L3 H' → HRel G X.w X.K μ' L3 H' → Q PUnit.unit s') → wpAny (model X.prog X.w) X.A (storeAll D us) Q E s := by
  induction xs with
  | nil =>
    intro ps us L L3 μ H s I hr hD rp vv e h
    unfold RPs at rp
    cases rp
    cases vv
    cases e
    exact wpAny_pure (h s μ H I (Le.refl _ _ _) hr)
  | cons p xs ih =>
    intro ps us L L3 μ H s I hr hD rp vv e h
    obtain ⟨k, y⟩ := p
    unfold RPs at rp
    cases rp with
    | cons r rs =>
      cases vv with
      | cons v vs =>
        rename_i us'
        unfold putAll at e
        split at e
        · rename_i vv kvs hn
          split at e
          · rename_i hk
            rw [Bool.and_eq_true_iff] at hk
            unfold storeAll
            rw [List.forIn_cons]
            refine wpAny_bind (wpAny_bind (ld_dictSet hu I hr hn hD r.1 v.1 hk.1 r.2 v.2 (Nat.blt_eq.mp hk.2) fun s' o' I' le hr' => wpAny_pure ?_))
            exact ih I' hr' (le.get hD) (Paired.mapP rs fun _ _ z => ⟨VRel.le le _ z.1, VRel.le le _ z.2⟩) vs e fun s2 μ2 H2 I2 le2 hr2 => h s2 μ2 H2 I2 (le.trans le2) hr2
          · cases e
        · cases e
theorem je_disp {keys : List (Option Expr)} {values : List Expr} {m : Lm (List (LV × LV))} (hu : X.A.units + 64 < cLine) (hm : JPs X G W pos keys values m) (hall : keys.all (·.isSome) = true := by rfl) (hl : keys.length = values.length := by rfl) (h0 : keys ≠ [] := by exact List.cons_ne_nil _ _) (h15 : keys.length ≤ 15 := by decide) : JE X G W (.Dict keys values pos) (eDisp m) :=
  ⟨fun pins s σ H Q I ⟨μ, l, L, sr, h, o⟩ => by
    have hn := I.hok.fresh (Nat.le_refl s.heap.objs.size)
    have hm' : (s.heap.objs.size == sysModules) = false := beq_eq_false_iff_ne.mpr (Ne.symm (Nat.ne_of_lt I.big))
    obtain ⟨le2, h2⟩ := h.obj_new hn (o := dX s.heap.objs.size emptyD) (u := .dct 0 []) (fun _ z => nomatch z) fun μ' L' le => ⟨emptyD, upd_same, hm', DRel.empty⟩
    have I1 := I.laid (a := s.heap.objs.size) (o := dX s.heap.objs.size emptyD) (t' := s.toks) (h' := s.heap.push emptyD) (fun _ _ q => Heap.get?_push_of_some _ q) (Nat.le_refl _) (dX_ok (Heap.get?_push_size _ rfl))
    have hD : (μ ++ [s.heap.objs.size])[L.length]? = some s.heap.objs.size := new_last (xs := L) h.len rfl
    refine wpAny_Dict_any hall hl h0 h15 (thn (hm.run pins _ σ _ _ I1 (TX.bind (R := RPs X.K) (sr.le le2) h2 (Out.shift le2 o))) fun us s1 ⟨ps, H1, I1, rel, μ1, L1, xs, le1, sr1, h1, r1, o1⟩ => ?_)
    dsimp only at o1
    split at o1
    · rename_i L3 h3
      exact put_all hu xs I1 h1 (le1.get hD) r1 rel h3 fun s' μ' H' I' le' hr' => ⟨.ref _, H', I', rfl, o1 μ' _ H' le' hr' ⟨_, (le1.trans le').get hD, rfl⟩⟩
    · exact o1.elim⟩
end
end LT

set_option Elab.async false
set_option linter.all false
set_option autoImplicit false
set_option maxRecDepth 100000
set_option maxHeartbeats 400000
namespace LT
open PySem PySem.Spec L2

/-- more is told of the heap -/
theorem HRel.ext {G : Gm} {w : World} {K : PySem.W.Frag} {μ : List Addr} {L : LH} {H H2 : Hp} (h : HRel G w K μ L H) (g : ∀ b o, H b = some o → H2 b = some o) : Le μ L H μ L H2 ∧ HRel G w K μ L H2 := by
  have rd : ∀ a xs, Rd H a (.tup xs) → Rd H2 a (.tup xs) := fun a xs r => by
    rcases r with r | ⟨o, r⟩
    · exact .inl (g _ _ r)
    · exact .inr ⟨o, g _ _ r⟩
  have same : ∀ a, a ∈ μ → H2 a = H a := fun a ha => by
    obtain ⟨u, e, _⟩ := h.trk ha
    rw [e]; exact g _ _ e
  have le : Le μ L H μ L H2 := ⟨⟨[], (List.append_nil _).symm⟩, fun b o e n => ⟨g b o e, n⟩, rd, fun n a v kvs ha hd => ⟨v, kvs, hd, Nat.le_refl _, fun _ => ⟨rfl, same a (List.mem_of_getElem? ha)⟩⟩⟩
  exact ⟨le, h.len, h.nd, fun n a o ha ho => (h.obj n a o ha ho).le le (same a (List.mem_of_getElem? ha))⟩
/-- list(view) -/
theorem call_listI {prog : Program} {w : World} {A : Around} {E : Value → Shared → Prop} {s : Shared} {r d : Addr} {es : Array DictEntry} {ep : Nat} {Q : Value → Shared → Prop} (hh : A.handled = none) (hv : s.heap.IsItemsView r d) (hm : DT.Raw s.heap d es ep) (hn : es.size ≤ sizeLine)
    (h : ∀ h' tk acc c as, (∀ b o, s.heap.get? b = some o → h'.get? b = some o) → h'.get? s.heap.objs.size = some { cls := .type "list", dict := none, data := .seq acc c, slots := #[] } → as.length = es.size → DT.Made es s.heap.objs.size h' as → acc.toList = as.map Value.ref → Q (.ref s.heap.objs.size) { s with heap := h', toks := tk }) :
    wpAny (model prog w) A (call (.type "list") [.ref r]) Q E s := by
  have hr : r < s.heap.objs.size := let ⟨_, ho, _⟩ := hv; Heap.lt_size ho
  have hd := hm.lt
  refine callType_codes (Q₁ := fun obj s₁ => obj = .ref s.heap.objs.size ∧ s₁ = { s with heap := s.heap.push { cls := .type "list", data := .seq #[] } }) PySem.F.called_list (PySem.F.typeCall_list_1 _) PySem.F.entry_list_init
    (code_list_new _ ⟨rfl, rfl⟩) fun obj s₁ h₁ => ?_
  obtain ⟨rfl, rfl⟩ := h₁
  have hS : (s.heap.push { cls := .type "list", data := .seq #[] }).get? s.heap.objs.size = some { cls := .type "list", data := .seq #[] } := Heap.get?_push_size _ rfl
  refine ⟨⟨_, hS, rfl⟩, PySem.F.args_list_init_2 _ _, ?_⟩
  show wpAny _ _ (do let old ← Builtin.List.listItems (.ref s.heap.objs.size); Builtin.List.listUpdate (.ref s.heap.objs.size) (fun _ => #[]); letGo old.toList.reverse; Builtin.List.listExtendWith (.ref s.heap.objs.size) (.ref r) .none) _ _ _
  refine wpAny_bind ?_
  unfold Builtin.List.listItems
  refine wpAny_bind (wpAny_seqItems hS rfl (wpAny_pure ?_))
  show wpAny _ _ (updateSeq s.heap.objs.size (fun _ => #[]) >>= fun _ => letGo (#[] : Array Value).toList.reverse >>= fun _ => Builtin.List.listExtendWith (.ref s.heap.objs.size) (.ref r) .none) _ _ _
  refine wpAny_bind (wpAny_updateSeq hS rfl ?_)
  have hS₂ := Heap.get?_update_self (Obj.mapSeq (fun _ => (#[] : Array Value))) hS rfl
  have oth : ∀ b o, s.heap.get? b = some o → ((s.heap.push { cls := .type "list", data := .seq #[] }).update s.heap.objs.size (Obj.mapSeq (fun _ => (#[] : Array Value)))).get? b = some o :=
    fun b o e => (Heap.get?_update_other _ _ (Ne.symm (Nat.ne_of_lt (Heap.lt_size e)))).trans (Heap.get?_push_of_some _ e)
  refine wpAny_bind (wpAny_letGo ?_)
  refine DT.extI (A := A.in1) (es := es) (ep := ep) (d := d) hh (let ⟨o, ho, q⟩ := hv; ⟨o, oth _ _ ho, q⟩) (hm.at' fun o e => oth _ _ e) s.heap.objs.size (Nat.ne_of_gt hr) (Nat.ne_of_lt hd) .none _ hS₂ (fun h' tk acc c as hk hS' hl hG hacc => ?_) hn
  refine ⟨rfl, h h' tk acc c as (fun b o e => hk b o (Nat.ne_of_lt (Heap.lt_size e)) (oth b o e)) hS' hl (hG.low ?_) hacc⟩
  exact Nat.le_of_lt (Heap.lt_size hS₂)
def rItL (G : Gm) (w : World) (K : PySem.W.Frag) : List V → Hp → VK → Prop := fun vs H Q => ∃ (p a : Addr) (μ : List Addr) (L : LH) (n vv : Nat) (kvs : List (LV × LV)), vs = [.ref p] ∧ H p = some (L2.DX.itemsO p a) ∧ HRel G w K μ L H ∧ μ[n]? = some a ∧ L[n]? = some (.dct vv kvs) ∧ OutO (RV K) G w K Q μ L H (some (.ref L.length, L ++ [.lst (kvs.map fun q => .tup [q.1, q.2])]))
theorem made_rels {w : World} {K : PySem.W.Frag} {μ : List Addr} {H H2 : Hp} {es : Array DictEntry} : ∀ {kvs : List (LV × LV)} {as : List Addr}, kvs.length = as.length →
    (∀ (j : Nat) (a : Addr) (q : LV × LV), as[j]? = some a → kvs[j]? = some q → ∃ k v, H2 a = some (.tup [k, v]) ∧ VRel K μ H2 q.1 k ∧ VRel K μ H2 q.2 v) → VRels K μ H2 (kvs.map fun q => .tup [q.1, q.2]) (as.map V.ref)
  | [], [], _, _ => rfl
  | [], _ :: _, h, _ => by simp at h
  | _ :: _, [], h, _ => by simp at h
  | q :: kvs, a :: as, h, hj => by
    obtain ⟨k, v, e, rk, rv⟩ := hj 0 a q rfl rfl
    refine ⟨.ref a, as.map V.ref, rfl, ⟨a, [k, v], rfl, SqT.of e, k, [v], rfl, rk, v, [], rfl, rv, rfl⟩, made_rels (w := w) (H := H) (es := es) (by simpa using h) fun j b p h1 h2 => hj (j + 1) b p h1 h2⟩
theorem OutO.shift {α β : Type} {R : Rl α β} {G : Gm} {w : World} {K : PySem.W.Frag} {Q : β → Hp → Prop} {μ μ1 : List Addr} {L L1 : LH} {H H1 : Hp} {r : Option (α × LH)} (le : Le μ L H μ1 L1 H1) (o : OutO R G w K Q μ L H r) : OutO R G w K Q μ1 L1 H1 r := by
  cases r with
  | none => exact o
  | some p => exact fun μ' v H' a b c => o μ' v H' (le.trans a) b c
section
variable {X : Cx} {G : Gm} {W : WX} {pos : Pos} {o : Expr} {mo : Lm LV}
/-- tuples that were laid are told -/
theorem take_all {pins : List (Addr × Obj)} {σ : St} {H0 : Hp} {s : Shared} {h' : Heap} {tk : Nat} {P : Addr → List V → Prop} (I0 : Inv X pins σ H0 s) (as : List Addr) : ∀ H1, Inv X pins σ H1 { s with heap := h', toks := tk } → as.Nodup →
    (∀ a ∈ as, s.heap.objs.size ≤ a ∧ H1 a = none ∧ ∃ vs, P a vs ∧ ∀ H2, ObjOk X.prog X.w H2 h' a (.tup vs)) →
    ∃ H2, Inv X pins σ H2 { s with heap := h', toks := tk } ∧ (∀ b o, H1 b = some o → H2 b = some o) ∧ (∀ a ∈ as, ∃ vs, P a vs ∧ H2 a = some (.tup vs)) ∧ ∀ b, b ∉ as → H2 b = H1 b := by
  induction as with
  | nil => exact fun H1 I1 _ _ => ⟨H1, I1, fun _ _ e => e, (fun _ h => nomatch h), fun _ _ => rfl⟩
  | cons a as ih =>
    intro H1 I1 hn h
    obtain ⟨hb, hnone, vs, hP, ok⟩ := h a List.mem_cons_self
    have I2 : Inv X pins σ (upd H1 a (.tup vs)) { s with heap := h', toks := tk } := I1.take (h' := h') (t' := tk) (fun b ob _ e => e) (I0.fpOk hb hnone) (ok _)
    obtain ⟨n1, n2⟩ := List.nodup_cons.mp hn
    obtain ⟨H2, I3, g, q, fr⟩ := ih (upd H1 a (.tup vs)) I2 n2 fun c hc => by
      obtain ⟨c1, c2, c3⟩ := h c (List.mem_cons_of_mem _ hc)
      exact ⟨c1, by rw [upd_ne (fun z => n1 (by rw [← z]; exact hc))]; exact c2, c3⟩
    refine ⟨H2, I3, fun b o e => g b o (by rw [upd_ne (ne_of_none e hnone)]; exact e), fun c hc => ?_, fun b hb => ?_⟩
    · rcases List.mem_cons.mp hc with z | z
      · rw [z]; exact ⟨vs, hP, g _ _ upd_same⟩
      · exact q c z
    · rw [fr b fun z => hb (List.mem_cons_of_mem _ z), upd_ne fun z => hb (by rw [z]; exact List.mem_cons_self)]
theorem cr_listI (hc : X.calm = true) : CallR X (.type "list") (rItL G X.w X.K) := by
  intro pins s σ H xs us Q I r h
  obtain ⟨p, a, μ, L, n, vv, kvs, rfl, hp, hr, ha, hn, ou⟩ := h
  obtain rfl := Vals.ref1 r
  have view : s.heap.IsItemsView p a := (show ObjOk X.prog X.w H s.heap p (L2.DX.itemsO p a) from I.hok p _ hp).1
  obtain ⟨ob, hob, hm, d⟩ := dct_of hr hn ha
  obtain ⟨es, ep, hd, hz, pr⟩ := d.es
  refine call_listI (I.ok.hd hc) view ⟨ob, dX_at I.hok hob, d.ex, hd⟩ hz fun h' tk acc c as hk hS hl hG hacc => ?_
  have I1 : Inv X pins σ H { s with heap := h', toks := tk } := I.kept hk
  have nd : as.Nodup := List.Pairwise.imp (fun h => Nat.ne_of_lt h) hG.rise
  have lk : kvs.length = as.length := by rw [hl]; exact (drel_size pr).symm
  obtain ⟨H2, I2, g, q2, fr⟩ := take_all (P := fun b vs => ∃ (j : Nat) (q : LV × LV), as[j]? = some b ∧ kvs[j]? = some q ∧ ∃ k v, vs = [k, v] ∧ VRel X.K μ H q.1 k ∧ VRel X.K μ H q.2 v) I as H I1 nd fun b hb => by
    obtain ⟨j, hj⟩ := List.getElem?_of_mem hb
    obtain ⟨e, he, hg⟩ := hG.pairs j b hj
    have hjk : j < kvs.length := by rw [lk]; exact (List.getElem?_eq_some_iff.mp hj).1
    have hq : kvs[j]? = some kvs[j] := List.getElem?_eq_getElem hjk
    obtain ⟨e', he', ⟨k, rk, ku⟩, ⟨v, rv, vu⟩, _⟩ := L2.paired_get pr hq
    rw [Array.getElem?_toList, he] at he'
    cases he'
    refine ⟨Nat.le_of_lt (hG.above b hb), I.hok.fresh (Nat.le_of_lt (hG.above b hb)), [k, v], ⟨j, _, hj, hq, k, v, rfl, rk, rv⟩, fun H3 => ?_⟩
    exact ⟨by show 2 ≤ sizeLine; rw [sizeLine_eq]; omega, [e.key, e.val], .cons ku (.cons vu .nil), _, hg, rfl, _, rfl⟩
  obtain ⟨le2, h2⟩ := hr.ext g
  have rels : VRels X.K μ H2 (kvs.map fun q => .tup [q.1, q.2]) (as.map V.ref) := made_rels (w := X.w) (H := H) (es := es) lk fun j b q hj hq => by
    obtain ⟨vs, ⟨j', q', hj', hq', k, v, rfl, rk, rv⟩, e⟩ := q2 b (List.mem_of_getElem? hj)
    have : j' = j := (List.getElem?_inj (List.getElem?_eq_some_iff.mp hj').1 nd).mp (hj'.trans hj.symm)
    subst this
    rw [hq] at hq'
    cases hq'
    exact ⟨k, v, e, VRel.le le2 _ rk, VRel.le le2 _ rv⟩
  have hS2 : H2 s.heap.objs.size = none := by
    rw [fr _ fun z => Nat.lt_irrefl _ (hG.above _ z)]
    exact I.hok.fresh (Nat.le_refl _)
  have hlen : (as.map V.ref).length ≤ sizeLine := by rw [List.length_map, hl]; exact hz
  have I3 : Inv X pins σ (upd H2 s.heap.objs.size (.lst (as.map V.ref))) { s with heap := h', toks := tk } := I2.take (h' := h') (t' := tk) (fun b ob _ e => e) (I.fpOk (Nat.le_refl _) hS2) ⟨hlen, as.map Value.ref, c, vals_refs as, by rw [← hacc, Array.toArray_toList]; exact hS⟩
  exact ⟨.ref s.heap.objs.size, _, I3, rfl, OutO.lst (OutO.shift le2 ou) h2 rels _ hS2⟩
/-- list(o.items()) -/
def eItL (mo : Lm LV) : Lm LV := fun l L => (mo l L).bind fun x L1 => match x with
  | .ref n => (match L1[n]? with
    | some (.dct _ kvs) => .ok (.ref L1.length) (L1 ++ [.lst (kvs.map fun q => .tup [q.1, q.2])])
    | _ => .bad)
  | _ => .bad
def tItV (G : Gm) (w : World) (K : PySem.W.Frag) (W : WX) (mo : Lm LV) : TE := fun σ H Q => TX (RV K) G w K W mo σ H fun x H1 => ∃ (μ : List Addr) (L : LH) (n vv : Nat) (kvs : List (LV × LV)) (a : Addr), HRel G w K μ L H1 ∧ x = .ref a ∧ μ[n]? = some a ∧ L[n]? = some (.dct vv kvs) ∧ ∀ p, H1 p = none → Q (.ref p) (upd H1 p (L2.DX.itemsO p a))
theorem pe_itV {apos cpos : Pos} (ho : JE X G W o mo) (hbase : attributeBase o "items" X.env (eval o X.env) = eval o X.env := by rfl) (hline : (apos.endLine == cpos.line) = true := by rfl) : PE X (.Call (.Attribute o "items" apos) [] [] cpos) (tItV G X.w X.K W mo) := by
  refine ⟨fun pins s σ H Q I h => ?_⟩
  refine wpAny_Call_method0_late hbase hline (thn (ho.run pins s σ H _ I h) fun v s1 ⟨x, H1, I1, rx, μ, L, n, vv, kvs, a, hr, ex, ha, hn, q⟩ => ?_)
  subst ex
  obtain rfl : v = Value.ref a := rx
  obtain ⟨ob, hob, hm, d⟩ := dct_of hr hn ha
  obtain ⟨es, ep, hd, hz, pr⟩ := d.es
  have hg := dX_at I1.hok hob
  refine ⟨"dict", "dict.items", PySem.F.plainAttrs_dict, PySem.F.slot_dict_items, PySem.F.type_dict_items, ⟨ob, hg, d.ex.1⟩, fun b e => ?_, ?_⟩
  · cases e
    exact ⟨ob, hg, d.ex.2.1⟩
  · refine Calls.callWith_builtin rfl (PySem.evalArgs_none (DT.callItems (es := es) (ep := ep) hm ⟨ob, hg, d.ex, hd⟩ ?_))
    exact ⟨.ref s1.heap.objs.size, upd H1 s1.heap.objs.size (L2.DX.itemsO s1.heap.objs.size a), I1.laid (t' := s1.toks) (fun b u e => Heap.get?_push_of_some _ e) (Nat.le_refl _) (L2.DX.itemsO_ok (Heap.get?_push_size _ rfl)), rfl, q _ (I1.hok.fresh (Nat.le_refl _))⟩
theorem je_itL {p apos cpos : Pos} (hc : X.calm = true) (hg : Gl X "list") (hm : X.mg "list" = none) (ho : JE X G W o mo) (hbase : attributeBase o "items" X.env (eval o X.env) = eval o X.env := by rfl) (hline : (apos.endLine == cpos.line) = true := by rfl)
    (hs : starEach [.Call (.Attribute o "items" apos) [] [] cpos] X.env = (false, eval (.Call (.Attribute o "items" apos) [] [] cpos) X.env) :: starEach [] X.env := by rfl) :
    JE X G W (.Call (.Name "list" p) [.Call (.Attribute o "items" apos) [] [] cpos] [] pos) (eItL mo) :=
  PE.imp (pe_callTy (cr_listI (G := G) hc) hg hm PyProof.Rows.boot_list (pa_cons (pe_itV ho hbase hline) pa_nil hs) (by decide) (by decide) hs (by rfl)) fun σ H Q ⟨μ, l, L, s, h, o⟩ =>
    (TX.bind (R := RV X.K) s h o).mono fun v H1 ⟨μ1, L1, x, le, s1, h1, r1, o1⟩ => by
      dsimp only at o1
      split at o1
      · split at o1
        · rename_i n _ vv kvs hn
          obtain ⟨a, ha, rfl⟩ := r1
          refine ⟨μ1, L1, n, vv, kvs, a, h1, rfl, ha, hn, fun q hq => ?_⟩
          obtain ⟨le2, h2⟩ := h1.tup hq (L2.DX.itemsO q a)
          exact ⟨q, a, μ1, L1, n, vv, kvs, rfl, upd_same, h2, ha, hn, OutO.shift le2 o1⟩
        · exact o1.elim
      · exact o1.elim
end
end LT

set_option Elab.async false
set_option linter.all false
set_option autoImplicit false
set_option maxRecDepth 100000
set_option maxHeartbeats 400000
namespace LT
open PySem PySem.Spec L2

/-! ### dict(pairs) -/
def pairsOf : List LV → Option (List (LV × LV))
  | [] => some []
  | .tup [k, v] :: r => match pairsOf r with
    | some ps => some ((k, v) :: ps)
    | none => none
  | _ => none
def rDictL : OpN
  | [.ref n], L => match lstAt L n with
    | some xs => (match pairsOf xs with
      | some ps => if ((ps.all fun p => okKey p.1) && ((ps.all fun p => isTup p.1) || (ps.all fun p => !isTup p.1)) && Nat.ble ps.length sizeLine) = true then some (.ref L.length, L ++ [.dct 0 (dputs [] ps)]) else none
      | none => none)
    | none => none
  | _, _ => none
/-- a pair as it lies -/
def PRel (K : PySem.W.Frag) (μ : List Addr) (H : Hp) (p : LV × LV) (q : Value × Value) : Prop := (∃ k, VRel K μ H p.1 k ∧ RelV k q.1) ∧ ∃ v, VRel K μ H p.2 v ∧ RelV v q.2
section
variable {X : Cx} {G : Gm} {pins : List (Addr × Obj)} {σ : St} {H : Hp} {s : Shared} {μ : List Addr}
theorem pairs_lie (I : Inv X pins σ H s) : ∀ {xs : List LV} {ps : List (LV × LV)} {vs : List V} {us : List Value}, pairsOf xs = some ps → VRels X.K μ H xs vs → Vals vs us →
    ∃ (ts : List Addr) (qs : List (Value × Value)), us = ts.map Value.ref ∧ ts.length = qs.length ∧ (∀ (j : Nat) (k v : Value), qs[j]? = some (k, v) → ∃ t, ts[j]? = some t ∧ PySem.PairAt s.heap t k v) ∧ Paired (PRel X.K μ H) ps qs
  | [], ps, vs, us, e, r, q => by
    cases e
    cases r
    cases q
    exact ⟨[], [], rfl, rfl, fun j k v h => by simp at h, .nil⟩
  | x :: xs, ps, vs, us, e, r, q => by
    obtain ⟨v, vr, rfl, r1, r2⟩ := r
    cases q with
    | cons q1 q2 =>
      unfold pairsOf at e
      split at e
      · rename_i e0
        cases e0
      · rename_i k y r' e0
        cases e0
        split at e
        · rename_i ps' hp
          cases e
          obtain ⟨ts, qs, e1, e2, e3, e4⟩ := pairs_lie I hp r2 q2
          obtain ⟨t, ws, rfl, sq, k', q', rfl, rk, y', q'', rfl, ry, rfl⟩ := r1
          cases q1
          obtain ⟨its, rv, tp, _⟩ := I.tuple sq
          cases rv with
          | cons ru rv =>
            cases rv with
            | cons ru2 rv =>
              cases rv
              refine ⟨t :: ts, (_, _) :: qs, by rw [List.map_cons, e1], by rw [List.length_cons, List.length_cons, e2], fun j k v hj => ?_, .cons ⟨⟨k', rk, ru⟩, ⟨y', ry, ru2⟩⟩ e4⟩
              cases j with
              | zero =>
                cases hj
                exact ⟨t, rfl, .inl (let ⟨o, q1, q2, n, q3⟩ := tp; ⟨o, q1, q2, n, q3⟩)⟩
              | succ j => exact e3 j k v hj
        · cases e
      · cases e
theorem prel_tup {K : PySem.W.Frag} : ∀ {ps : List (LV × LV)} {qs : List (Value × Value)}, Paired (PRel K μ H) ps qs → (ps.all fun p => okKey p.1) = true → (ps.all fun p => isTup p.1) = true → ∃ ys : List (NestedKey × Addr × Value), Paired (TRel K μ H) ps ys ∧ ys.length = qs.length ∧ ∀ (j : Nat) (k v : Value), qs[j]? = some (k, v) → ∃ x b, ys[j]? = some (x, b, v) ∧ k = .ref b
  | _, _, .nil, _, _ => ⟨[], .nil, rfl, fun j k v h => by simp at h⟩
  | p :: ps, q :: qs, .cons r t, h1, h2 => by
    rw [List.all_cons, Bool.and_eq_true_iff] at h1 h2
    obtain ⟨ys, a, b, c⟩ := prel_tup t h1.2 h2.2
    obtain ⟨⟨k, rk, ku⟩, v, rv, vu⟩ := r
    obtain ⟨ad, e1, e2⟩ := isT_of h2.1 rk ku
    subst e1
    refine ⟨(nk p.1, ad, q.2) :: ys, .cons ⟨rfl, rk, ⟨v, rv, vu⟩, h1.1, h2.1⟩ a, by rw [List.length_cons, List.length_cons, b], fun j k' v' hj => ?_⟩
    cases j with
    | zero =>
      cases hj
      exact ⟨_, ad, rfl, e2⟩
    | succ j => exact c j k' v' hj
theorem prel_leaf {K : PySem.W.Frag} : ∀ {ps : List (LV × LV)} {qs : List (Value × Value)}, Paired (PRel K μ H) ps qs → (ps.all fun p => okKey p.1) = true → (ps.all fun p => !isTup p.1) = true → ∃ ys : List (Key × Value), Paired (LRel K μ H) ps ys ∧ ys.length = qs.length ∧ ∀ (P : Program) (w : World) (j : Nat) (k v : Value), qs[j]? = some (k, v) → ∃ x, ys[j]? = some (x, v) ∧ (mixKind P w).is x k = true
  | _, _, .nil, _, _ => ⟨[], .nil, rfl, fun P w j k v h => by simp at h⟩
  | p :: ps, q :: qs, .cons r t, h1, h2 => by
    rw [List.all_cons, Bool.and_eq_true_iff] at h1 h2
    obtain ⟨ys, a, b, c⟩ := prel_leaf t h1.2 h2.2
    obtain ⟨⟨k, rk, ku⟩, v, rv, vu⟩ := r
    obtain ⟨x, hx⟩ := kOf_ok h1.1 (by simpa using h2.1)
    refine ⟨(x, q.2) :: ys, .cons ⟨hx, v, rv, vu⟩ a, by rw [List.length_cons, List.length_cons, b], fun P w j k' v' hj => ?_⟩
    cases j with
    | zero =>
      cases hj
      rw [kOf_rel hx] at rk
      subst rk
      exact ⟨x, rfl, kV_is ku⟩
    | succ j => exact c P w j k' v' hj
theorem dputs_nodup : ∀ (more kvs : List (LV × LV)), (kvs.map fun p => nk p.1).Nodup → ((dputs kvs more).map fun p => nk p.1).Nodup
  | [], _, h => h
  | p :: more, kvs, h => dputs_nodup more (dput kvs p.1 p.2) (dput_nodup h)
theorem jc_dict (hc : X.calm = true) (hu : X.A.units + 70 < cLine) : JCall X G (.type "dict") rDictL := by
  intro pins s σ H xs us Q I r h
  obtain ⟨μ, L, as, hr, rs, o⟩ := h
  unfold rDictL at o
  split at o
  · split at o
    · rename_i n _ ys hl
      split at o
      · rename_i ps hp
        split at o
        · rename_i hk
          simp only [Bool.and_eq_true_iff, Bool.or_eq_true_iff] at hk
          obtain ⟨⟨h1, h2⟩, h3⟩ := hk
          have h3 := Nat.le_of_ble_eq_true h3
          obtain ⟨v, q, rfl, ⟨a, ha, rfl⟩, rfl⟩ := rs
          obtain ⟨u, rfl, rx⟩ := r.one
          cases rx
          obtain ⟨a', vs, ha', sq, rv⟩ := hr.lst hl
          rw [ha] at ha'
          cases ha'
          obtain ⟨its, r', pl, hz⟩ := I.list sq
          obtain ⟨ts, qs, e1, e2, e3, e4⟩ := pairs_lie I hp rv r'
          have lq : qs.length = ps.length := e4.length.symm
          have ok : PySem.PlainSeq "list" s.heap a its.toArray ∧ PySem.PairItems s.heap its.toArray (fun j => ts.getD j 0) qs := by
            refine ⟨pl, by rw [List.size_toArray, e1, List.length_map]; exact e2, fun j k v hj => ?_⟩
            obtain ⟨t, ht, pa⟩ := e3 j k v hj
            have et : ts.getD j 0 = t := by rw [List.getD_eq_getElem?_getD, ht]; rfl
            refine ⟨?_, by show PySem.PairAt s.heap (ts.getD j 0) k v; rw [et]; exact pa⟩
            show its.toArray[j]? = some (Value.ref (ts.getD j 0))
            rw [et, e1]
            simp [ht]
          have fin : ∀ h' tk o', (∀ b ob, s.heap.get? b = some ob → h'.get? b = some ob) → h'.get? s.heap.objs.size = some o' → DRel X.w X.K μ H o' (dputs [] ps) → EP X pins σ Q (.ref s.heap.objs.size) { s with heap := h', toks := tk } := fun h' tk o' hk e d => by
            have hn := I.hok.fresh (Nat.le_refl s.heap.objs.size)
            have hm : (s.heap.objs.size == sysModules) = false := beq_eq_false_iff_ne.mpr (Ne.symm (Nat.ne_of_lt I.big))
            obtain ⟨le2, hh2⟩ := hr.obj_new hn (o := dX s.heap.objs.size o') (u := .dct 0 (dputs [] ps)) (fun _ z => nomatch z) fun μ' L' le => ⟨o', upd_same, hm, d.le le⟩
            exact ⟨.ref s.heap.objs.size, _, I.laid (t' := tk) hk (Nat.le_refl _) (dX_ok e), rfl, o _ _ _ le2 hh2 ⟨_, new_last (xs := L) hr.len rfl, rfl⟩⟩
          have hzd : (dputs [] ps).length ≤ sizeLine := Nat.le_trans (dputs_len ps []) (by simpa using h3)
          rcases h2 with h2 | h2
          · obtain ⟨zs, t1, t2, t3⟩ := prel_tup e4 h1 h2
            refine call_dict_pairsH (knd := nestedKind X.prog X.w) (ps := zs) (PySem.PairArg.list a its.toArray (fun j => ts.getD j 0) qs) (I.ok.hd hc) (show X.A.units + 1 + 1 + 8 < cLine by omega) ok ⟨t2, fun j k v hj => t3 j k v hj⟩ (fun h' hk x hx => ?_) (by rw [lq]; exact h3) fun h' tk dd hk => ?_
            · obtain ⟨b, _, rb⟩ := paired_right t1 hx
              exact TRel.is (I.kept (t' := s.toks) (h' := h') fun c ob e => hk c ob (Nat.ne_of_lt (Heap.lt_size e)) (fun z => nomatch z) e) rb
            · obtain ⟨o', e, d'⟩ := DRel.ofT dd (tputs .nil List.nodup_nil t1) hzd
              exact fin h' tk o' (fun b ob e => hk b ob (fun z => nomatch z) e) e d'
          · obtain ⟨zs, t1, t2, t3⟩ := prel_leaf e4 h1 h2
            refine call_dict_pairs (knd := mixKind X.prog X.w) (kvs := zs) (PySem.PairArg.list a its.toArray (fun j => ts.getD j 0) qs) (I.ok.hd hc) ok ⟨t2, fun j k v hj => t3 X.prog X.w j k v hj⟩ (by rw [lq]; exact h3) fun h' tk dd hk => ?_
            obtain ⟨o', e, d'⟩ := DRel.ofL dd (lputs .nil List.nodup_nil t1) hzd
            exact fin h' tk o' (fun b ob e => hk b ob (fun z => nomatch z) e) e d'
        · exact o.elim
      · exact o.elim
    · exact o.elim
  · exact o.elim
/-- x is True, x is not True -/
def isV2 : Op2
  | x, .non, L => some (.bl (isNonV x), L)
  | .bl b, .bl c, L => some (.bl (b == c), L)
  | _, _, _ => none
def isNotV2 : Op2
  | x, .non, L => some (.bl (!isNonV x), L)
  | .bl b, .bl c, L => some (.bl (!(b == c)), L)
  | _, _, _ => none
theorem jo_is2 : JOp X G (compareOp .Is) isV2 := by
  intro pins s σ H x y v u Q I rx ry h
  obtain ⟨μ, L, a, b, hr, ra, rb, o⟩ := h
  unfold isV2 at o
  split at o
  · exact jo_is (G := G) pins s σ H x y v u Q I rx ry ⟨μ, L, a, .non, hr, ra, rb, o⟩
  · cases ra
    cases rb
    cases rx
    cases ry
    rename_i b c
    exact wpAny_is_plain rfl ⟨.bl (b == c), H, I, by cases b <;> cases c <;> rfl, o.here hr rfl⟩
  · exact o.elim
theorem jo_isnot2 : JOp X G (compareOp .IsNot) isNotV2 := by
  intro pins s σ H x y v u Q I rx ry h
  obtain ⟨μ, L, a, b, hr, ra, rb, o⟩ := h
  unfold isNotV2 at o
  split at o
  · exact jo_isnot (G := G) pins s σ H x y v u Q I rx ry ⟨μ, L, a, .non, hr, ra, rb, o⟩
  · cases ra
    cases rb
    cases rx
    cases ry
    rename_i b c
    exact wpAny_isNot_plain rfl ⟨.bl (!(b == c)), H, I, by cases b <;> cases c <;> rfl, o.here hr rfl⟩
  · exact o.elim
/-! ### *, //, %, ** of ints -/
def mulV : Op2
  | .int i, .int j, L => if (decide (-(2 ^ 64) < j) && decide (j < 2 ^ 64)) = true then some (.int (i * j), L) else none
  | _, _, _ => none
def fdivV : Op2
  | .int i, .int j, L => if (decide (0 < j) && decide (j < 1073741824)) = true then some (.int (i / j), L) else none
  | _, _, _ => none
def modV : Op2
  | .int i, .int j, L => if decide (0 < j) = true then some (.int (i % j), L) else none
  | _, _, _ => none
theorem jo_mul : JOp X G (binaryOp .Mult) mulV := by
  intro pins s σ H x y v u Q I rx ry h
  obtain ⟨μ, L, a, b, hr, ra, rb, o⟩ := h
  unfold mulV at o
  split at o
  · split at o
    · rename_i hc
      rw [Bool.and_eq_true_iff] at hc
      exact op_mul pins s σ H x y v u Q I rx ry ⟨_, _, ra, rb, .inr ⟨of_decide_eq_true hc.1, of_decide_eq_true hc.2⟩, o.here hr rfl⟩
    · exact o.elim
  · exact o.elim
theorem jo_fdiv : JOp X G (binaryOp .FloorDiv) fdivV := by
  intro pins s σ H x y v u Q I rx ry h
  obtain ⟨μ, L, a, b, hr, ra, rb, o⟩ := h
  unfold fdivV at o
  split at o
  · split at o
    · rename_i hc
      rw [Bool.and_eq_true_iff] at hc
      exact op_fdiv pins s σ H x y v u Q I rx ry ⟨_, _, ra, rb, ⟨of_decide_eq_true hc.1, of_decide_eq_true hc.2⟩, o.here hr rfl⟩
    · exact o.elim
  · exact o.elim
theorem jo_mod : JOp X G (binaryOp .Mod) modV := by
  intro pins s σ H x y v u Q I rx ry h
  obtain ⟨μ, L, a, b, hr, ra, rb, o⟩ := h
  unfold modV at o
  split at o
  · split at o
    · rename_i hc
      exact op_mod pins s σ H x y v u Q I rx ry ⟨_, _, ra, rb, of_decide_eq_true hc, o.here hr rfl⟩
    · exact o.elim
  · exact o.elim
end
end LT

set_option Elab.async false
set_option linter.all false
set_option autoImplicit false
set_option maxRecDepth 100000
set_option maxHeartbeats 400000
namespace LT
open PySem PySem.Spec L2
theorem hu64 {k : Nat} {A : Around} (hr : Room k A) : A.units + 64 < cLine := hr.units
theorem hu65 {k : Nat} {A : Around} (hr : Room k A) : A.units + 65 < cLine := by have := hr.un; omega
theorem hu70 {k : Nat} {A : Around} (hr : Room k A) : A.units + 70 < cLine := by have := hr.un; omega

/-! ### the head's facts: the kit's, and any others that the part of the heap tells -/
def prA (K : PySem.W.Frag) (x m : Str) : Addr := match PySem.W.recIn K (He.ma K (He.ga K x) m) "property" with
  | some (.ref g :: _) => g
  | _ => 0
/-- what stands at an address: a def -/
def fnAt (K : PySem.W.Frag) (a : Addr) : He.FnW := match K.lookup a with
  | some ⟨_, _, .func fd, _⟩ => some (fd.name, fd.qualname, fd.params, fd.body, fd.scope, fd.globals, fd.closure, fd.builtins)
  | _ => none
def okAt (K : PySem.W.Frag) (a : Addr) (q : Str) : Bool := PySem.W.keepIn K (.ref a) && (match K.lookup a with
  | some ⟨_, _, .func fd, _⟩ => PySem.W.codeIn K fd.code q && (decide (fd.defaults = .none))
  | _ => false)
theorem funD_at {K : PySem.W.Frag} {a : Addr} {d : He.DefD} (e : fnAt K a = d.val) (c : okAt K a d.qual = true) : ∃ fd, FunD K d.name d.qual d.params d.body d.scope [] [] a fd := by
  unfold okAt at c
  rw [Bool.and_eq_true_iff] at c
  obtain ⟨kp, c2⟩ := c
  unfold fnAt at e
  cases q : K.lookup a with
  | none => rw [q] at c2; cases c2
  | some o =>
    obtain ⟨oc, od, dt, osl⟩ := o
    rw [q] at c2 e
    cases dt with
    | func fd =>
      obtain ⟨n1, n2, n3, n4, n5, n6, n7, n8, n9, n10, n11, n12, n13, n14, n15⟩ := fd
      have e2 : (some (n1, n2, n3, n4, n5, n6, n7, n15) : He.FnW) = some (d.name, d.qual, d.params, .stmts d.body, d.scope, mainGlobals, [], builtinsNs) := e
      simp only [Option.some.injEq, Prod.mk.injEq] at e2
      obtain ⟨h1, h2, h3, h4, h5, h6, h7, h8⟩ := e2
      subst h1 h2 h3 h4 h5 h6 h7 h8
      have c3 : (PySem.W.codeIn K n13 d.qual && decide (n8 = .none)) = true := c2
      rw [Bool.and_eq_true_iff] at c3
      exact ⟨_, ⟨oc, od, n8, n9, n10, n11, n12, n13, n14, osl, rfl, q, c3.1, .inl ⟨rfl, of_decide_eq_true c3.2⟩, .inl rfl⟩, kp⟩
    | _ => cases c2
/-- what the module's names reach in n steps, not through code -/
def refsL (o : Obj) : List Addr := if (o.cls == .type "code") = true then [] else He.refsD o
def asL (g : Addr → Option Obj) : Nat → List Addr × List Addr
  | 0 => ([mainGlobals], [mainGlobals])
  | n + 1 => match asL g n with
    | (s, f) => (match (f.flatMap fun a => match g a with
        | some o => refsL o
        | none => []).filter (fun a => !(s.any fun b => Nat.beq b a)) with
      | f2 => (s ++ f2, f2))
structure GD where
  c : Str
  m : Str
  d : He.DefD
abbrev AlL : Type := He.AlD × Bool × List He.FnW
def obsL (fa : List He.Fa) (fn : List He.DefD) (bs : List (PySem.W.Frag → Bool)) (gs : List GD) (K : PySem.W.Frag) : AlL := (He.obsD fa fn K, (bs.all fun b => b K) && (gs.all fun g => okAt K (prA K g.c g.m) g.d.qual), gs.map fun g => fnAt K (prA K g.c g.m))
def valL (fn : List He.DefD) (gs : List GD) : AlL := (He.valD fn, true, gs.map fun g => g.d.val)
def SaysL (fa : List He.Fa) (fn : List He.DefD) (bs : List (PySem.W.Frag → Bool)) (gs : List GD) (K : PySem.W.Frag) : Prop := obsL fa fn bs gs K = valL fn gs
def obsLG (n : Nat) (fa : List He.Fa) (fn : List He.DefD) (bs : List (PySem.W.Frag → Bool)) (gs : List GD) (g : Addr → Option Obj) : AlL := obsL fa fn bs gs (He.frG g (asL g n).1)
def hookL (n : Nat) (fa : List He.Fa) (fn : List He.DefD) (bs : List (PySem.W.Frag → Bool)) (gs : List GD) : PySem.W.Hook where
  α := AlL
  obs := fun s => obsLG n fa fn bs gs s.heap.get?
  val := fun _ => valL fn gs
  says := fun _ h => ∃ K : PySem.W.Frag, K.In h ∧ SaysL fa fn bs gs K
  of := fun _ _ e => ⟨_, He.frG_in, e⟩
  keeps := fun _ _ _ ⟨K, hK, c⟩ k => ⟨K, PySem.W.Frag.In.keeps hK k, c⟩
theorem obsLG_eq {n : Nat} {fa : List He.Fa} {fn : List He.DefD} {bs : List (PySem.W.Frag → Bool)} {gs : List GD} {g : Addr → Option Obj} {s : Shared} (h : ∀ a, g a = s.heap.get? a) : obsLG n fa fn bs gs g = (hookL n fa fn bs gs).obs s := by
  have e : g = s.heap.get? := funext h
  rw [e] <;> rfl
section
variable {fa : List He.Fa} {fn : List He.DefD} {bs : List (PySem.W.Frag → Bool)} {gs : List GD} {K : PySem.W.Frag}
theorem SaysL.d (c : SaysL fa fn bs gs K) : He.SaysD fa fn K := congrArg (fun z : AlL => z.1) c
theorem SaysL.b2 (c : SaysL fa fn bs gs K) : (bs.all fun b => b K) = true ∧ (gs.all fun g => okAt K (prA K g.c g.m) g.d.qual) = true := by
  have c1 : ((bs.all fun b => b K) && (gs.all fun g => okAt K (prA K g.c g.m) g.d.qual)) = true := congrArg (fun z : AlL => z.2.1) c
  rwa [Bool.and_eq_true_iff] at c1
theorem SaysL.ob (c : SaysL fa fn bs gs K) (i : Nat) {b : PySem.W.Frag → Bool} (h : bs[i]? = some b := by rfl) : b K = true := List.all_eq_true.mp c.b2.1 b (List.mem_of_getElem? h)
theorem SaysL.gd (c : SaysL fa fn bs gs K) (i : Nat) {g : GD} (h : gs[i]? = some g := by rfl) : ∃ fd, FunD K g.d.name g.d.qual g.d.params g.d.body g.d.scope [] [] (prA K g.c g.m) fd := by
  have e : (gs.map fun g => fnAt K (prA K g.c g.m)) = gs.map fun g => g.d.val := congrArg (fun z : AlL => z.2.2) c
  have e2 : (gs.map fun g => fnAt K (prA K g.c g.m))[i]? = (gs.map fun g => g.d.val)[i]? := by rw [e]
  rw [List.getElem?_map, List.getElem?_map, h] at e2
  exact funD_at (Option.some.inj e2) (List.all_eq_true.mp c.b2.2 g (List.mem_of_getElem? h))
end
/-! kinds of facts -/
def eqOB (a b : Option Bool) : Bool := decide (a = b)
def obIs (t c : PySem.W.Frag → Value) (r : Bool) : PySem.W.Frag → Bool := fun K => decide (PySem.W.kitOne K (t K) (c K) = some r)
theorem obIs_ok {t c : PySem.W.Frag → Value} {r : Bool} {K : PySem.W.Frag} (h : obIs t c r K = true) : PySem.W.kitOne K (t K) (c K) = some r := of_decide_eq_true h
def obCl (x : Str) : PySem.W.Frag → Bool := fun K => decide (PySem.W.findIn K (.ref (He.ga K x)) "__class__" = some (some (.builtin "object.__class__"))) &&
  (decide (PySem.W.specialIn K (.builtin "object.__class__") "__get__" = some (some (.builtin "getset_descriptor.__get__"))) && (decide (PySem.W.takesIn K (.builtin "object.__class__") = some true) && decide (PySem.W.mroIn K (He.ga K x) (.type "object") = some true)))
theorem obCl_ok {x : Str} {K : PySem.W.Frag} (c : Cls K (He.ga K x)) (h : obCl x K = true) : ClsK K (He.ga K x) := by
  unfold obCl at h
  simp only [Bool.and_eq_true_iff, decide_eq_true_eq] at h
  exact ⟨c, h.1, h.2.1, h.2.2.1, h.2.2.2⟩
def obPr (x m : Str) : PySem.W.Frag → Bool := fun K => decide (PySem.W.findIn K (.ref (He.ga K x)) m = some (some (.ref (He.ma K (He.ga K x) m)))) &&
  (decide (PySem.W.specialIn K (.ref (He.ma K (He.ga K x) m)) "__get__" = some (some (.builtin "property.__get__"))) && (decide (PySem.W.takesIn K (.ref (He.ma K (He.ga K x) m)) = some true) &&
    (match PySem.W.recIn K (He.ma K (He.ga K x) m) "property" with
    | some (.ref _ :: _) => true
    | _ => false)))
theorem obPr_ok {x m : Str} {K : PySem.W.Frag} (h : obPr x m K = true) : PropOf K (He.ga K x) m (He.ma K (He.ga K x) m) (prA K x m) := by
  unfold obPr at h
  simp only [Bool.and_eq_true_iff, decide_eq_true_eq] at h
  refine ⟨h.1, h.2.1, h.2.2.1, ?_⟩
  have h4 := h.2.2.2
  unfold prA
  split at h4
  · rename_i g rest e
    rw [e]
    exact ⟨rest, rfl⟩
  · cases h4
end LT

set_option Elab.async false
set_option linter.all false
set_option autoImplicit false
set_option maxRecDepth 100000
set_option maxHeartbeats 400000
namespace LT
open PySem PySem.Spec L2
/-- a def whose arguments are not looked at -/
def lBody0 (N : Nat) (m : Ls) : LH → Rs LV := fun L => match m (List.replicate N none) L with
  | .nx _ L' => .ok .non L'
  | .rt x L' => .ok x L'
  | .ex e _ L' => .ex e L'
  | _ => .bad
def FSp0 (G : Gm) (w : World) (K : PySem.W.Frag) (n : Nat) (f : LH → Rs LV) : Sp := fun vs H Q E => vs.length = n ∧ ∃ μ L, HRel G w K μ L H ∧ Out (RV K) G w K (fun c d _ H => E c d H) [] Q μ L H (f L)
theorem fn_lt0 {P : Program} {w : World} {K : PySem.W.Frag} {mg : Str → Option Value} {base : Heap} {G : Gm} {x qual : Str} {params : Arguments} {body : List Stmt} {scope : Scope} {kws : List (Str × V)} {f : Addr} {fd : FuncData} {N ps : List Str} {k : Nat} {m : Ls} (F : FunD K x qual params body scope [] kws f fd) (S : FnScope N ps scope) (hN : ps.length ≤ N.length)
    (hb : ∀ (cdv : Value) (A : Around) (outer : List Env) (s : Shared) (H : Hp) (E : XK), Room k (cxOf (L2.CX P w) P w K mg base N qual scope f cdv A outer s H E).A → Takes (cxOf (L2.CX P w) P w K mg base N qual scope f cdv A outer s H E) (fun c d _ H => E c d H) → JB (cxOf (L2.CX P w) P w K mg base N qual scope f cdv A outer s H E) G (fun c d _ H => E c d H) body m) :
    FnOk P w K mg base (L2.CX P w) (k + 1) f fd ps (FSp0 G w K ps.length (lBody0 N.length m)) := by
  refine F.ok S (fun vs H Q E h => h.1) fun cdv A outer s H vs Q E hr ⟨hn, μ, L, h, o⟩ => ⟨_, hb cdv A outer s H E hr (takes_of rfl rfl rfl rfl), ?_⟩
  refine ⟨μ, List.replicate N.length none, L, ⟨?_, fun i x e => ?_⟩, h, ?_⟩
  · unfold L2.start
    rw [List.length_replicate, List.length_append, List.length_map, List.length_replicate]
    omega
  · have := List.mem_of_getElem? e
    rw [List.mem_replicate] at this
    cases this.2
  · unfold lBody0 at o
    cases er : m (List.replicate N.length none) L with
    | nx l L' => rw [er] at o; exact fun μ' σ' H' a b c => o μ' .non H' a b rfl
    | rt x L' => rw [er] at o; exact o
    | bk l L' => rw [er] at o; exact o.elim
    | ct l L' => rw [er] at o; exact o.elim
    | ex e l L' => rw [er] at o; exact fun μ' σ' H' c d a b _ x => o μ' H' c d a b x
    | bad => rw [er] at o; exact o
theorem cx_none {P : Program} {w : World} (H : Hp) (s : Shared) (e : Value) (s' : Shared) (h : L2.CX P w [] H s (fun _ _ _ => False) e s') : False := by
  obtain ⟨_, _, _, _, _, _, _, _, _, _, _, _, z⟩ := h
  exact z
/-- a law's end, what it may let out told by the world -/
theorem walk_lt {l : PySem.W.OpenLaw} {n k : Nat} {q : Program} {loose : List Str} {XP : (Str → Option Value) → Heap → Prop} {YP : World → Heap → Prop} {d : DefRec} {x : Str}
    (hn : l.most = some n) (hn2 : n ≤ sizeLine) (hdf : d.params.defaults = []) (hr : Room k callerA)
    (F : ∀ (w : World) (mg : Str → Option Value) (fa : Addr) (h : Heap), YP w h → h.Ns mainGlobals mg → mg d.name = some (.ref fa) →
      ∃ (K : PySem.W.Frag) (fd : FuncData) (sp : Sp), K.In h ∧ (∀ (s : Shared) (u : Value), BindsTo s fd ⟨[u], []⟩ [(x, u)]) ∧
        (∀ (H : Hp) (a : Addr) (ns : List Int), ns.length ≤ n → Only H → SqL K H a (ns.map V.int) → sp [.ref a] H (fun v _ => v = .bl true) fun _ _ _ => False) ∧
        ∀ base : Heap, K.In base → base.Ns mainGlobals mg → FnOk l.prog w K mg base (L2.CX l.prog w) k fa fd [x] sp) :
    PySem.W.WalkO q loose XP YP l.row.toRowW d [] (fun f vs => PySem.call f vs) := by
  refine Att.attach_call hn hdf fun w s₀ s₁ mg mb fa o pm cd doc a vs ns G Y ho hd hcd hmg hobj hints hlen hg => ?_
  obtain ⟨K, fd, sp, KX, hb, hsp, hF⟩ := F w mg fa _ Y G.T.g hmg
  exact law_call KX G.T.g G.T.b G.T.builtins G.T.nolimit hg hobj hints (Nat.le_trans hlen hn2) hr hF hb (fun H hO hS => hsp H a ns hlen hO hS) fun H e s' => cx_none H s₁ e s'
end LT

set_option Elab.async false
set_option linter.all false
set_option autoImplicit false
set_option maxRecDepth 100000
set_option maxHeartbeats 400000
namespace LT
open PySem PySem.Spec L2

/-! ### indices renamed -/
mutual
def ren (ρ : Nat → Option Nat) : LV → Option LV
  | .tup xs => match rens ρ xs with
    | some ys => some (.tup ys)
    | none => none
  | .ref n => match ρ n with
    | some m => some (.ref m)
    | none => none
  | .non => some .non
  | .bl b => some (.bl b)
  | .int i => some (.int i)
  | .str x => some (.str x)
def rens (ρ : Nat → Option Nat) : List LV → Option (List LV)
  | [] => some []
  | x :: xs => match ren ρ x with
    | some y => (match rens ρ xs with
      | some ys => some (y :: ys)
      | none => none)
    | none => none
end
def renK (ρ : Nat → Option Nat) : List (LV × LV) → Option (List (LV × LV))
  | [] => some []
  | (k, v) :: r => match ren ρ v with
    | some y => (match renK ρ r with
      | some ys => some ((k, y) :: ys)
      | none => none)
    | none => none
def renF (ρ : Nat → Option Nat) : List (Nat × LV) → Option (List (Nat × LV))
  | [] => some []
  | (k, v) :: r => match ren ρ v with
    | some y => (match renF ρ r with
      | some ys => some ((k, y) :: ys)
      | none => none)
    | none => none
def renO (ρ : Nat → Option Nat) : LO → Option LO
  | .lst xs => (match rens ρ xs with
    | some ys => some (.lst ys)
    | none => none)
  | .fz xs => (match rens ρ xs with
    | some ys => some (.fz ys)
    | none => none)
  | .dct v kvs => (match renK ρ kvs with
    | some ys => some (.dct v ys)
    | none => none)
  | .obj c fs => (match renF ρ fs with
    | some ys => some (.obj c ys)
    | none => none)
section
variable {G : Gm} {w : World} {K : PySem.W.Frag} {μ μ' : List Addr} {H : Hp} {ρ : Nat → Option Nat}
abbrev RnOk (ρ : Nat → Option Nat) (μ μ' : List Addr) : Prop := ∀ i j a, ρ i = some j → μ[i]? = some a → μ'[j]? = some a
mutual
theorem ren_rel (hρ : RnOk ρ μ μ') : ∀ (x : LV) {y : LV} {v : V}, ren ρ x = some y → VRel K μ H x v → VRel K μ' H y v
  | .non, y, v, e, r => by unfold ren at e; cases e; exact r
  | .bl b, y, v, e, r => by unfold ren at e; cases e; exact r
  | .int i, y, v, e, r => by unfold ren at e; cases e; exact r
  | .str z, y, v, e, r => by unfold ren at e; cases e; exact r
  | .tup xs, y, v, e, r => by
    unfold ren at e
    cases h : rens ρ xs with
    | none => rw [h] at e; cases e
    | some ys =>
      rw [h] at e
      cases e
      obtain ⟨a, vs, e, s, q⟩ := r
      exact ⟨a, vs, e, s, rens_rel hρ xs h q⟩
  | .ref n, y, v, e, r => by
    unfold ren at e
    cases h : ρ n with
    | none => rw [h] at e; cases e
    | some m =>
      rw [h] at e
      cases e
      obtain ⟨a, ha, e⟩ := r
      exact ⟨a, hρ n m a h ha, e⟩
theorem rens_rel (hρ : RnOk ρ μ μ') : ∀ (xs : List LV) {ys : List LV} {vs : List V}, rens ρ xs = some ys → VRels K μ H xs vs → VRels K μ' H ys vs
  | [], ys, vs, e, r => by unfold rens at e; cases e; exact r
  | x :: xs, ys, vs, e, r => by
    unfold rens at e
    cases h : ren ρ x with
    | none => rw [h] at e; cases e
    | some y =>
      rw [h] at e
      dsimp only at e
      cases h2 : rens ρ xs with
      | none => rw [h2] at e; cases e
      | some zs =>
        rw [h2] at e
        cases e
        obtain ⟨v, q, e, r1, r2⟩ := r
        exact ⟨v, q, e, ren_rel hρ x h r1, rens_rel hρ xs h2 r2⟩
end
mutual
theorem flat_rel : ∀ (x : LV) {v : V}, flat x = true → VRel K μ H x v → VRel K μ' H x v
  | .non, v, _, r => r
  | .bl b, v, _, r => r
  | .int i, v, _, r => r
  | .str z, v, _, r => r
  | .tup xs, v, f, r => by
    obtain ⟨a, vs, e, s, q⟩ := r
    unfold flat at f
    exact ⟨a, vs, e, s, flats_rel xs f q⟩
  | .ref n, v, f, r => by cases f
theorem flats_rel : ∀ (xs : List LV) {vs : List V}, flats xs = true → VRels K μ H xs vs → VRels K μ' H xs vs
  | [], vs, _, r => r
  | x :: xs, vs, f, r => by
    unfold flats at f
    rw [Bool.and_eq_true_iff] at f
    obtain ⟨v, q, e, r1, r2⟩ := r
    exact ⟨v, q, e, flat_rel x f.1 r1, flats_rel xs f.2 r2⟩
end
theorem okKey_flat {k : LV} (h : okKey k = true) : flat k = true := by
  cases k with
  | tup xs =>
    unfold okKey at h
    rw [Bool.and_eq_true_iff] at h
    unfold flat
    exact h.1
  | int i => rfl
  | str x => rfl
  | _ => cases h
theorem renK_rel (hρ : RnOk ρ μ μ') : ∀ {kvs ys : List (LV × LV)} {es : List DictEntry}, renK ρ kvs = some ys → Paired (ERel w K μ H) kvs es → Paired (ERel w K μ' H) ys es ∧ ys.map (·.1) = kvs.map (·.1)
  | [], ys, _, e, .nil => by cases e; exact ⟨.nil, rfl⟩
  | (k, v) :: r, ys, _, e, .cons p ps => by
    unfold renK at e
    cases h : ren ρ v with
    | none => rw [h] at e; cases e
    | some y =>
      rw [h] at e
      dsimp only at e
      cases h2 : renK ρ r with
      | none => rw [h2] at e; cases e
      | some zs =>
        rw [h2] at e
        cases e
        obtain ⟨a, b⟩ := renK_rel hρ h2 ps
        obtain ⟨⟨k', rk, ku⟩, ⟨v', rv, vu⟩, hh, ok⟩ := p
        exact ⟨.cons ⟨⟨k', flat_rel k (okKey_flat ok) rk, ku⟩, ⟨v', ren_rel hρ v h rv, vu⟩, hh, ok⟩ a, by rw [List.map_cons, List.map_cons, b]⟩
theorem renF_rel (hρ : RnOk ρ μ μ') : ∀ {fs ys : List (Nat × LV)} {gs : List (Str × V)}, renF ρ fs = some ys → FRel G K μ H fs gs → FRel G K μ' H ys gs
  | [], ys, _, e, .nil => by cases e; exact .nil
  | (k, v) :: r, ys, _, e, .cons p ps => by
    unfold renF at e
    cases h : ren ρ v with
    | none => rw [h] at e; cases e
    | some y =>
      rw [h] at e
      dsimp only at e
      cases h2 : renF ρ r with
      | none => rw [h2] at e; cases e
      | some zs =>
        rw [h2] at e
        cases e
        exact .cons ⟨p.1, ren_rel hρ v h p.2⟩ (renF_rel hρ h2 ps)
theorem renO_rel (hρ : RnOk ρ μ μ') {o o' : LO} {a : Addr} (e : renO ρ o = some o') (r : ORel G w K μ H a o) : ORel G w K μ' H a o' := by
  cases o with
  | lst xs =>
    unfold renO at e
    dsimp only at e
    cases h : rens ρ xs with
    | none => rw [h] at e; cases e
    | some ys => rw [h] at e; cases e; obtain ⟨vs, p, q⟩ := r; exact ⟨vs, p, rens_rel hρ xs h q⟩
  | fz xs =>
    unfold renO at e
    dsimp only at e
    cases h : rens ρ xs with
    | none => rw [h] at e; cases e
    | some ys => rw [h] at e; cases e; obtain ⟨o, vs, p, q⟩ := r; exact ⟨o, vs, p, rens_rel hρ xs h q⟩
  | dct v kvs =>
    unfold renO at e
    dsimp only at e
    cases h : renK ρ kvs with
    | none => rw [h] at e; cases e
    | some ys =>
      rw [h] at e
      cases e
      obtain ⟨o, p, s, ex, ⟨es, ep, e1, e2, pr⟩, nd, kd⟩ := r
      obtain ⟨q1, q2⟩ := renK_rel hρ h pr
      have e3 : ∀ {β : Type} (f : LV → β), ys.map (fun p => f p.1) = kvs.map fun p => f p.1 := fun f => by
        have := congrArg (List.map f) q2
        rwa [List.map_map, List.map_map] at this
      have e4 : ∀ f : LV → Bool, (ys.all fun p => f p.1) = kvs.all fun p => f p.1 := fun f => by
        have := congrArg (fun l : List Bool => l.all id) (e3 f)
        simpa [List.all_map] using this
      exact ⟨o, p, s, ex, ⟨es, ep, e1, e2, q1⟩, by rw [e3 nk]; exact nd, by rw [e4 isTup, e4 fun k => !isTup k]; exact kd⟩
  | obj c fs =>
    unfold renO at e
    dsimp only at e
    cases h : renF ρ fs with
    | none => rw [h] at e; cases e
    | some ys => rw [h] at e; cases e; obtain ⟨dx, gs, p, q⟩ := r; exact ⟨dx, gs, p, renF_rel hρ h q⟩
end
/-! ### normal forms -/
def fN {α : Type} (n : Nat) (k : Nat → α) : α := match n with
  | 0 => k 0
  | m + 1 => k (m + 1)
theorem fN_eq {α : Type} (n : Nat) (k : Nat → α) : fN n k = k n := by cases n <;> rfl
def fI {α : Type} (i : Int) (k : Int → α) : α := match i with
  | .ofNat n => fN n fun n => k (.ofNat n)
  | .negSucc n => fN n fun n => k (.negSucc n)
theorem fI_eq {α : Type} (i : Int) (k : Int → α) : fI i k = k i := by
  cases i with
  | ofNat n => exact fN_eq n fun n => k (.ofNat n)
  | negSucc n => exact fN_eq n fun n => k (.negSucc n)
def fB {α : Type} (b : Bool) (k : Bool → α) : α := match b with
  | true => k true
  | false => k false
theorem fB_eq {α : Type} (b : Bool) (k : Bool → α) : fB b k = k b := by cases b <;> rfl
mutual
def fV {α : Type} : LV → (LV → α) → α
  | .non, k => k .non
  | .bl b, k => fB b fun b => k (.bl b)
  | .int i, k => fI i fun i => k (.int i)
  | .str x, k => k (.str x)
  | .tup xs, k => fVs xs fun ys => k (.tup ys)
  | .ref n, k => fN n fun n => k (.ref n)
def fVs {α : Type} : List LV → (List LV → α) → α
  | [], k => k []
  | x :: xs, k => fV x fun y => fVs xs fun ys => k (y :: ys)
end
mutual
theorem fV_eq {α : Type} : ∀ (x : LV) (k : LV → α), fV x k = k x
  | .non, k => by unfold fV; rfl
  | .bl b, k => by unfold fV; exact fB_eq _ _
  | .int i, k => by unfold fV; exact fI_eq _ _
  | .str x, k => by unfold fV; rfl
  | .tup xs, k => by unfold fV; rw [fVs_eq]
  | .ref n, k => by unfold fV; exact fN_eq _ _
theorem fVs_eq {α : Type} : ∀ (xs : List LV) (k : List LV → α), fVs xs k = k xs
  | [], k => by unfold fVs; rfl
  | x :: xs, k => by unfold fVs; rw [fV_eq, fVs_eq]
end
def fK {α : Type} : List (LV × LV) → (List (LV × LV) → α) → α
  | [], k => k []
  | (x, y) :: r, k => fV x fun x => fV y fun y => fK r fun r => k ((x, y) :: r)
theorem fK_eq {α : Type} : ∀ (xs : List (LV × LV)) (k : List (LV × LV) → α), fK xs k = k xs
  | [], k => rfl
  | (x, y) :: r, k => by unfold fK; rw [fV_eq, fV_eq, fK_eq]
def fF {α : Type} : List (Nat × LV) → (List (Nat × LV) → α) → α
  | [], k => k []
  | (x, y) :: r, k => fN x fun x => fV y fun y => fF r fun r => k ((x, y) :: r)
theorem fF_eq {α : Type} : ∀ (xs : List (Nat × LV)) (k : List (Nat × LV) → α), fF xs k = k xs
  | [], k => rfl
  | (x, y) :: r, k => by unfold fF; rw [fN_eq, fV_eq, fF_eq]
def fO {α : Type} (o : LO) (k : LO → α) : α := match o with
  | .lst xs => fVs xs fun xs => k (.lst xs)
  | .fz xs => fVs xs fun xs => k (.fz xs)
  | .dct v kvs => fN v fun v => fK kvs fun kvs => k (.dct v kvs)
  | .obj c fs => fN c fun c => fF fs fun fs => k (.obj c fs)
theorem fO_eq {α : Type} (o : LO) (k : LO → α) : fO o k = k o := by
  cases o with
  | lst xs => exact fVs_eq _ _
  | fz xs => exact fVs_eq _ _
  | dct v kvs => unfold fO; dsimp only; rw [fN_eq, fK_eq]
  | obj c fs => unfold fO; dsimp only; rw [fN_eq, fF_eq]
def fH {α : Type} : LH → (LH → α) → α
  | [], k => k []
  | o :: r, k => fO o fun o => fH r fun r => k (o :: r)
theorem fH_eq {α : Type} : ∀ (L : LH) (k : LH → α), fH L k = k L
  | [], k => rfl
  | o :: r, k => by unfold fH; rw [fO_eq, fH_eq]
def fR (r : Rs LV) : Rs LV := match r with
  | .ok x L => fV x fun x => fH L fun L => .ok x L
  | .ex e L => .ex e L
  | .bad => .bad
theorem fR_eq (r : Rs LV) : fR r = r := by
  cases r with
  | ok x L => unfold fR; dsimp only; rw [fV_eq, fH_eq]
  | ex e L => rfl
  | bad => rfl

/-! ### a call over the part of the heap that it reaches -/
mutual
def refsV : LV → List Nat
  | .tup xs => refsVs xs
  | .ref n => [n]
  | _ => []
def refsVs : List LV → List Nat
  | [] => []
  | x :: xs => refsV x ++ refsVs xs
end
def refsO : LO → List Nat
  | .lst xs => refsVs xs
  | .fz xs => refsVs xs
  | .dct _ kvs => kvs.flatMap fun p => refsV p.2
  | .obj _ fs => fs.flatMap fun p => refsV p.2
def hasN (n : Nat) (l : List Nat) : Bool := l.any fun m => Nat.beq m n
/-- what is reached: depth first -/
def reach (L : LH) : Nat → List Nat → List Nat → List Nat
  | 0, _, seen => seen
  | _, [], seen => seen
  | f + 1, n :: todo, seen => if hasN n seen = true then reach L f todo seen else (match L[n]? with
    | some o => fN n fun n => reach L f (refsO o ++ todo) (seen ++ [n])
    | none => reach L f todo seen)
def posN : List Nat → Nat → Option Nat
  | [], _ => none
  | m :: r, n => if Nat.beq m n = true then some 0 else (match posN r n with
    | some j => some (j + 1)
    | none => none)
def nodupN : List Nat → Bool
  | [] => true
  | x :: r => !hasN x r && nodupN r
def subH (ρ : Nat → Option Nat) (L : LH) : List Nat → Option LH
  | [] => some []
  | n :: r => match L[n]? with
    | some o => (match renO ρ o with
      | some o' => (match subH ρ L r with
        | some os => some (o' :: os)
        | none => none)
      | none => none)
    | none => none
/-- the objects of the caller, those of the callee among them -/
def mergeL (ι : List Nat) (ρ : Nat → Option Nat) (L1 : LH) : Nat → LH → Option LH
  | _, [] => some []
  | n, o :: r => match posN ι n with
    | some j => (match L1[j]? with
      | some o1 => (match renO ρ o1 with
        | some o' => (match mergeL ι ρ L1 (n + 1) r with
          | some os => some (o' :: os)
          | none => none)
        | none => none)
      | none => none)
    | none => (match mergeL ι ρ L1 (n + 1) r with
      | some os => some (o :: os)
      | none => none)
def backN (ι ks : List Nat) (n0 len : Nat) (i : Nat) : Option Nat := if Nat.blt i n0 = true then ι[i]? else (match posN ks i with
  | some p => some (len + p)
  | none => none)
def frame (f : List LV → LH → Rs LV) (xs : List LV) (L : LH) : Rs LV :=
  match reach L 100000 (refsVs xs) [] with
  | ι => if nodupN ι = true then (match rens (posN ι) xs, subH (posN ι) L ι with
    | some xs0, some L0 => fVs xs0 fun xs0 => fH L0 fun L0 => (match fR (f xs0 L0) with
      | .ok x L1 => (match (reach L1 100000 (refsV x ++ (L1.take L0.length).flatMap refsO) []).filter fun i => !Nat.blt i L0.length with
        | ks => (match ren (backN ι ks L0.length L.length) x, mergeL ι (backN ι ks L0.length L.length) L1 0 L, subH (backN ι ks L0.length L.length) L1 ks with
          | some x', some La, some Lb => if nodupN ks = true then .ok x' (La ++ Lb) else .bad
          | _, _, _ => .bad))
      | _ => .bad)
    | _, _ => .bad) else .bad
end LT

set_option Elab.async false
set_option linter.all false
set_option autoImplicit false
set_option maxRecDepth 100000
set_option maxHeartbeats 400000
namespace LT
open PySem PySem.Spec L2
theorem posN_ok {n : Nat} : ∀ {ι : List Nat} {j : Nat}, posN ι n = some j → ι[j]? = some n
  | [], j, h => by cases h
  | m :: r, j, h => by
    unfold posN at h
    split at h
    · rename_i e
      cases h
      rw [nbeq] at e
      subst e
      rfl
    · split at h
      · rename_i i hi
        cases h
        show r[i]? = some n
        exact posN_ok hi
      · cases h
theorem posN_none {n : Nat} : ∀ {ι : List Nat}, posN ι n = none → n ∉ ι
  | [], _ => by simp
  | m :: r, h => by
    unfold posN at h
    split at h
    · cases h
    · rename_i e
      split at h
      · cases h
      · rename_i hr
        intro hm
        rcases List.mem_cons.mp hm with z | z
        · exact e (nbeq.mpr z.symm)
        · exact posN_none hr z
theorem nodupN_ok : ∀ {l : List Nat}, nodupN l = true → l.Nodup
  | [], _ => .nil
  | x :: r, h => by
    unfold nodupN at h
    rw [Bool.and_eq_true_iff, Bool.not_eq_true'] at h
    refine List.nodup_cons.mpr ⟨fun m => ?_, nodupN_ok h.2⟩
    have := List.any_eq_false.mp h.1 x m
    exact this (Nat.beq_refl x)
theorem subH_ok {ρ : Nat → Option Nat} {L : LH} : ∀ {ι : List Nat} {L0 : LH}, subH ρ L ι = some L0 → L0.length = ι.length ∧ ∀ (j n : Nat), ι[j]? = some n → ∃ o o', L[n]? = some o ∧ renO ρ o = some o' ∧ L0[j]? = some o'
  | [], L0, h => by cases h; exact ⟨rfl, fun j n e => by simp at e⟩
  | n :: r, L0, h => by
    unfold subH at h
    split at h
    · rename_i o ho
      split at h
      · rename_i o' ho'
        split at h
        · rename_i os hos
          cases h
          obtain ⟨a, b⟩ := subH_ok hos
          refine ⟨by rw [List.length_cons, List.length_cons, a], fun j m e => ?_⟩
          cases j with
          | zero => cases e; exact ⟨o, o', ho, ho', rfl⟩
          | succ j => exact b j m e
        · cases h
      · cases h
    · cases h
theorem mergeL_ok {ι : List Nat} {ρ : Nat → Option Nat} {L1 : LH} : ∀ {L : LH} {n : Nat} {L' : LH}, mergeL ι ρ L1 n L = some L' → L'.length = L.length ∧ ∀ (i : Nat) (o : LO), L[i]? = some o →
    (posN ι (n + i) = none → L'[i]? = some o) ∧ ∀ j, posN ι (n + i) = some j → ∃ o1 o', L1[j]? = some o1 ∧ renO ρ o1 = some o' ∧ L'[i]? = some o'
  | [], n, L', h => by cases h; exact ⟨rfl, fun i o e => by simp at e⟩
  | o :: r, n, L', h => by
    unfold mergeL at h
    split at h
    · rename_i j hj
      split at h
      · rename_i o1 h1
        split at h
        · rename_i o' h2
          split at h
          · rename_i os h3
            cases h
            obtain ⟨a, b⟩ := mergeL_ok h3
            refine ⟨by rw [List.length_cons, List.length_cons, a], fun i u e => ?_⟩
            cases i with
            | zero =>
              cases e
              rw [Nat.add_zero]
              exact ⟨(fun z => by rw [hj] at z; cases z), (fun k z => by rw [hj] at z; cases z; exact ⟨o1, o', h1, h2, rfl⟩)⟩
            | succ i =>
              have := b i u e
              rw [show n + 1 + i = n + (i + 1) by omega] at this
              exact this
          · cases h
        · cases h
      · cases h
    · rename_i hj
      split at h
      · rename_i os h3
        cases h
        obtain ⟨a, b⟩ := mergeL_ok h3
        refine ⟨by rw [List.length_cons, List.length_cons, a], fun i u e => ?_⟩
        cases i with
        | zero =>
          cases e
          rw [Nat.add_zero]
          exact ⟨(fun _ => rfl), (fun k z => by rw [hj] at z; cases z)⟩
        | succ i =>
          have := b i u e
          rw [show n + 1 + i = n + (i + 1) by omega] at this
          exact this
      · cases h
/-- the addresses of some indices -/
def pick (μ : List Addr) (ι : List Nat) : List Addr := ι.map fun n => μ.getD n 0
theorem pick_get {μ : List Addr} {ι : List Nat} {j n : Nat} {a : Addr} (h : ι[j]? = some n) (ha : μ[n]? = some a) : (pick μ ι)[j]? = some a := by
  unfold pick
  rw [List.getElem?_map, h]
  simp [ha]
theorem rens_len {ρ : Nat → Option Nat} : ∀ {xs ys : List LV}, rens ρ xs = some ys → ys.length = xs.length
  | [], ys, e => by unfold rens at e; cases e; rfl
  | x :: xs, ys, e => by
    unfold rens at e
    split at e
    · split at e
      · rename_i zs h
        cases e
        rw [List.length_cons, List.length_cons, rens_len h]
      · cases e
    · cases e
mutual
theorem ren_round {ρ ρ' : Nat → Option Nat} (h : ∀ i j, ρ i = some j → ρ' j = some i) : ∀ (x : LV) {y : LV}, ren ρ x = some y → ren ρ' y = some x
  | .non, y, e => by unfold ren at e; cases e; unfold ren; rfl
  | .bl b, y, e => by unfold ren at e; cases e; unfold ren; rfl
  | .int i, y, e => by unfold ren at e; cases e; unfold ren; rfl
  | .str z, y, e => by unfold ren at e; cases e; unfold ren; rfl
  | .tup xs, y, e => by
    unfold ren at e
    cases q : rens ρ xs with
    | none => rw [q] at e; cases e
    | some ys => rw [q] at e; cases e; unfold ren; rw [rens_round h xs q]
  | .ref n, y, e => by
    unfold ren at e
    cases q : ρ n with
    | none => rw [q] at e; cases e
    | some m => rw [q] at e; cases e; unfold ren; rw [h n m q]
theorem rens_round {ρ ρ' : Nat → Option Nat} (h : ∀ i j, ρ i = some j → ρ' j = some i) : ∀ (xs : List LV) {ys : List LV}, rens ρ xs = some ys → rens ρ' ys = some xs
  | [], ys, e => by unfold rens at e; cases e; unfold rens; rfl
  | x :: xs, ys, e => by
    unfold rens at e
    cases q : ren ρ x with
    | none => rw [q] at e; cases e
    | some y =>
      rw [q] at e
      dsimp only at e
      cases q2 : rens ρ xs with
      | none => rw [q2] at e; cases e
      | some zs => rw [q2] at e; cases e; unfold rens; rw [ren_round h x q, rens_round h xs q2]
end
theorem renK_round {ρ ρ' : Nat → Option Nat} (h : ∀ i j, ρ i = some j → ρ' j = some i) : ∀ {kvs ys : List (LV × LV)}, renK ρ kvs = some ys → renK ρ' ys = some kvs
  | [], ys, e => by cases e; rfl
  | (k, v) :: r, ys, e => by
    unfold renK at e
    cases q : ren ρ v with
    | none => rw [q] at e; cases e
    | some y =>
      rw [q] at e
      dsimp only at e
      cases q2 : renK ρ r with
      | none => rw [q2] at e; cases e
      | some zs => rw [q2] at e; cases e; unfold renK; rw [ren_round h v q, renK_round h q2]
section
variable {G : Gm} {w : World} {K : PySem.W.Frag} {W : WX} {σ : St} {μ : List Addr} {L : LH} {H : Hp}
/-- the part of the heap that ι names -/
theorem HRel.sub (h : HRel G w K μ L H) {ι : List Nat} {L0 : LH} (nd : ι.Nodup) (e : subH (posN ι) L ι = some L0) : HRel G w K (pick μ ι) L0 H ∧ RnOk (posN ι) μ (pick μ ι) := by
  obtain ⟨l0, ob⟩ := subH_ok e
  have ok : RnOk (posN ι) μ (pick μ ι) := fun i j a hj ha => pick_get (posN_ok hj) ha
  have at_ : ∀ (j n : Nat), ι[j]? = some n → ∃ a, μ[n]? = some a := fun j n hn => by
    obtain ⟨o, o', h1, _⟩ := ob j n hn
    obtain ⟨a, ha, _⟩ := h.of h1
    exact ⟨a, ha⟩
  refine ⟨⟨by unfold pick; rw [List.length_map, l0], ?_, fun j a o ha ho => ?_⟩, ok⟩
  · refine List.pairwise_iff_getElem.mpr fun i j hi hj hij e => ?_
    have hj' : j < ι.length := by unfold pick at hj; rwa [List.length_map] at hj
    have hi' : i < ι.length := Nat.lt_trans hij hj'
    have e : (pick μ ι)[i]? = (pick μ ι)[j]? := by rw [List.getElem?_eq_getElem hi, List.getElem?_eq_getElem hj, e]
    obtain ⟨a, ha⟩ := at_ i _ (List.getElem?_eq_getElem hi')
    obtain ⟨b, hb⟩ := at_ j _ (List.getElem?_eq_getElem hj')
    rw [pick_get (List.getElem?_eq_getElem hi') ha, pick_get (List.getElem?_eq_getElem hj') hb] at e
    cases e
    have := (List.getElem?_inj (List.getElem?_eq_some_iff.mp ha).1 h.nd).mp (ha.trans hb.symm)
    have := (List.getElem_inj nd).mp this
    omega
  · have hj : j < ι.length := by
      have := (List.getElem?_eq_some_iff.mp ha).1
      unfold pick at this
      rwa [List.length_map] at this
    obtain ⟨u, u', h1, h2, h3⟩ := ob j _ (List.getElem?_eq_getElem hj)
    rw [h3] at ho
    cases ho
    obtain ⟨b, hb, r⟩ := h.of h1
    rw [pick_get (List.getElem?_eq_getElem hj) hb] at ha
    cases ha
    exact renO_rel ok h2 r
/-- behind the call: the callee's part laid back -/
theorem HRel.back (h : HRel G w K μ L H) {ι ks : List Nat} {L0 L1 La Lb : LH} {H1 : Hp} {μ1 : List Addr} (nd : ι.Nodup) (e : subH (posN ι) L ι = some L0) (le : Le (pick μ ι) L0 H μ1 L1 H1) (h1 : HRel G w K μ1 L1 H1)
    (nk : ks.Nodup) (hk : ∀ i ∈ ks, L0.length ≤ i) (ea : mergeL ι (backN ι ks L0.length L.length) L1 0 L = some La) (eb : subH (backN ι ks L0.length L.length) L1 ks = some Lb) :
    Le μ L H (μ ++ pick μ1 ks) (La ++ Lb) H1 ∧ HRel G w K (μ ++ pick μ1 ks) (La ++ Lb) H1 ∧ RnOk (backN ι ks L0.length L.length) μ1 (μ ++ pick μ1 ks) := by
  obtain ⟨h0, _⟩ := h.sub nd e
  obtain ⟨l0, ob0⟩ := subH_ok e
  obtain ⟨la, oba⟩ := mergeL_ok ea
  obtain ⟨lb, obb⟩ := subH_ok eb
  obtain ⟨more, em⟩ := le.pre
  have lp : (pick μ ι).length = ι.length := by unfold pick; rw [List.length_map]
  -- where an address of the callee stands
  have ok : RnOk (backN ι ks L0.length L.length) μ1 (μ ++ pick μ1 ks) := fun i j a hj ha => by
    unfold backN at hj
    split at hj
    · rename_i hi
      have hi := Nat.blt_eq.mp hi
      obtain ⟨o, o', q1, _⟩ := ob0 i j hj
      obtain ⟨b, hb, _⟩ := h.of q1
      have e2 := pick_get hj hb
      have e3 := le.get e2
      rw [ha] at e3
      cases e3
      rw [List.getElem?_append_left (List.getElem?_eq_some_iff.mp hb).1]
      exact hb
    · split at hj
      · rename_i p hp
        cases hj
        rw [← h.len, List.getElem?_append_right (Nat.le_add_right _ _), Nat.add_sub_cancel_left]
        exact pick_get (posN_ok hp) ha
      · cases hj
  have in1 : ∀ (n : Nat) a, μ[n]? = some a → n ∉ ι → a ∉ pick μ ι := fun n a ha hn hm => by
    unfold pick at hm
    obtain ⟨m, hm1, hm2⟩ := List.mem_map.mp hm
    obtain ⟨j, hj⟩ := List.getElem?_of_mem hm1
    obtain ⟨o, o', q1, _⟩ := ob0 j m hj
    obtain ⟨b, hb, _⟩ := h.of q1
    simp [hb] at hm2
    subst hm2
    have := (List.getElem?_inj (List.getElem?_eq_some_iff.mp ha).1 h.nd).mp (ha.trans hb.symm)
    subst this
    exact hn hm1
  have same : ∀ (n : Nat) a, μ[n]? = some a → n ∉ ι → H1 a = H a ∧ a ∉ μ1 := fun n a ha hn => by
    obtain ⟨u, hu, _⟩ := h.trk (List.mem_of_getElem? ha)
    obtain ⟨q1, q2⟩ := le.keep a u hu (in1 n a ha hn)
    exact ⟨by rw [q1, hu], q2⟩
  have new : ∀ a, a ∈ pick μ1 ks → a ∈ μ1 ∧ a ∉ μ := fun a ha => by
    unfold pick at ha
    obtain ⟨k, hk1, hk2⟩ := List.mem_map.mp ha
    obtain ⟨p, hp⟩ := List.getElem?_of_mem hk1
    obtain ⟨o, o', q1, _⟩ := obb p k hp
    obtain ⟨b, hb, _⟩ := h1.of q1
    simp [hb] at hk2
    subst hk2
    refine ⟨List.mem_of_getElem? hb, fun hm => ?_⟩
    obtain ⟨n, hn⟩ := List.getElem?_of_mem hm
    by_cases hi : n ∈ ι
    · obtain ⟨j, hj⟩ := List.getElem?_of_mem hi
      have e3 := le.get (pick_get hj hn)
      have := (List.getElem?_inj (List.getElem?_eq_some_iff.mp hb).1 h1.nd).mp (hb.trans e3.symm)
      have hj2 := (List.getElem?_eq_some_iff.mp hj).1
      have := hk k hk1
      omega
    · exact (same n b hn hi).2 (List.mem_of_getElem? hb)
  have le' : Le μ L H (μ ++ pick μ1 ks) (La ++ Lb) H1 := by
    refine ⟨⟨_, rfl⟩, fun b o hb n => ?_, le.tups, fun n a v kvs ha hd => ?_⟩
    · have nb : b ∉ pick μ ι := fun hm => by
        unfold pick at hm
        obtain ⟨m, hm1, hm2⟩ := List.mem_map.mp hm
        obtain ⟨j, hj⟩ := List.getElem?_of_mem hm1
        obtain ⟨o, o', q1, _⟩ := ob0 j m hj
        obtain ⟨c, hc, _⟩ := h.of q1
        simp [hc] at hm2
        subst hm2
        exact n (List.mem_of_getElem? hc)
      obtain ⟨q1, q2⟩ := le.keep b o hb nb
      refine ⟨q1, fun hm => ?_⟩
      rcases List.mem_append.mp hm with z | z
      · exact n z
      · exact q2 (new b z).1
    · obtain ⟨p1, p2⟩ := oba n _ hd
      rw [Nat.zero_add] at p1 p2
      have hl : n < La.length := by rw [la]; exact (List.getElem?_eq_some_iff.mp hd).1
      cases ep : posN ι n with
      | none =>
        exact ⟨v, kvs, by rw [List.getElem?_append_left hl]; exact p1 ep, Nat.le_refl _, fun _ => ⟨rfl, (same n a ha (posN_none ep)).1⟩⟩
      | some j =>
        obtain ⟨o1, o', q1, q2, q3⟩ := p2 j ep
        obtain ⟨u, u', r1, r2, r3⟩ := ob0 j n (posN_ok ep)
        rw [hd] at r1
        cases r1
        -- the dict as the callee had it
        unfold renO at r2
        dsimp only at r2
        cases hK : renK (posN ι) kvs with
        | none => rw [hK] at r2; cases r2
        | some ys =>
          rw [hK] at r2
          cases r2
          obtain ⟨v', kvs', t1, t2, t3⟩ := le.dcts j a v ys (pick_get (posN_ok ep) ha) r3
          rw [q1] at t1
          cases t1
          unfold renO at q2
          dsimp only at q2
          cases hK2 : renK (backN ι ks L0.length L.length) kvs' with
          | none => rw [hK2] at q2; cases q2
          | some zs =>
            rw [hK2] at q2
            cases q2
            refine ⟨v', zs, by rw [List.getElem?_append_left hl]; exact q3, t2, fun ev => ?_⟩
            obtain ⟨t4, t5⟩ := t3 ev
            subst t4
            refine ⟨?_, t5⟩
            have rt := renK_round (ρ' := backN ι ks L0.length L.length) (fun i j hij => by
              have q := posN_ok hij
              unfold backN
              rw [if_pos (Nat.blt_eq.mpr (by rw [l0]; exact (List.getElem?_eq_some_iff.mp q).1))]
              exact q) hK
            rw [hK2] at rt
            exact Option.some.inj rt
  refine ⟨le', ⟨by rw [List.length_append, List.length_append, la, lb, ← h.len]; unfold pick; rw [List.length_map], ?_, fun n a o ha ho => ?_⟩, ok⟩
  · rw [List.nodup_append]
    refine ⟨h.nd, ?_, fun a ha b hb z => (new b hb).2 (z ▸ ha)⟩
    refine List.pairwise_iff_getElem.mpr fun i j hi hj hij e => ?_
    have hj' : j < ks.length := by unfold pick at hj; rwa [List.length_map] at hj
    have hi' : i < ks.length := Nat.lt_trans hij hj'
    have e : (pick μ1 ks)[i]? = (pick μ1 ks)[j]? := by rw [List.getElem?_eq_getElem hi, List.getElem?_eq_getElem hj, e]
    obtain ⟨o, o', q1, _⟩ := obb i _ (List.getElem?_eq_getElem hi')
    obtain ⟨a, ha, _⟩ := h1.of q1
    obtain ⟨u, u', r1, _⟩ := obb j _ (List.getElem?_eq_getElem hj')
    obtain ⟨b, hb, _⟩ := h1.of r1
    rw [pick_get (List.getElem?_eq_getElem hi') ha, pick_get (List.getElem?_eq_getElem hj') hb] at e
    cases e
    have := (List.getElem?_inj (List.getElem?_eq_some_iff.mp ha).1 h1.nd).mp (ha.trans hb.symm)
    have := (List.getElem_inj nk).mp this
    omega
  · by_cases hn : n < μ.length
    · rw [List.getElem?_append_left hn] at ha
      have hl : n < La.length := by rw [la, ← h.len]; exact hn
      rw [List.getElem?_append_left hl] at ho
      obtain ⟨u, hu, ru⟩ := h.at ha
      obtain ⟨p1, p2⟩ := oba n u hu
      rw [Nat.zero_add] at p1 p2
      cases ep : posN ι n with
      | none =>
        rw [p1 ep] at ho
        cases ho
        exact ru.le le' (same n a ha (posN_none ep)).1
      | some j =>
        obtain ⟨o1, o', q1, q2, q3⟩ := p2 j ep
        rw [q3] at ho
        cases ho
        have e3 := le.get (pick_get (posN_ok ep) ha)
        exact renO_rel ok q2 (h1.obj j a o1 e3 q1)
    · rw [List.getElem?_append_right (Nat.le_of_not_lt hn)] at ha
      have hl : La.length ≤ n := by rw [la, ← h.len]; exact Nat.le_of_not_lt hn
      rw [List.getElem?_append_right hl, la, ← h.len] at ho
      have hp : n - μ.length < ks.length := by
        have := (List.getElem?_eq_some_iff.mp ho).1
        rw [lb] at this
        exact this
      obtain ⟨u, u', q1, q2, q3⟩ := obb _ _ (List.getElem?_eq_getElem hp)
      rw [q3] at ho
      cases ho
      obtain ⟨b, hb, rb⟩ := h1.of q1
      rw [pick_get (List.getElem?_eq_getElem hp) hb] at ha
      cases ha
      exact renO_rel ok q2 rb
theorem frame_out {f : List LV → LH → Rs LV} {xs : List LV} {vs : List V} {Q : VK} (h : HRel G w K μ L H) (r : VRels K μ H xs vs) (o : Out (RV K) G w K W σ Q μ L H (frame f xs L)) :
    ∃ μ0 L0 xs0, HRel G w K μ0 L0 H ∧ VRels K μ0 H xs0 vs ∧ xs0.length = xs.length ∧ Out (RV K) G w K W σ Q μ0 L0 H (f xs0 L0) := by
  unfold frame at o
  generalize reach L 100000 (refsVs xs) [] = ι at o
  dsimp only at o
  split at o
  · rename_i hn
    have nd := nodupN_ok hn
    split at o
    · rename_i xs0 L0 hx hL
      rw [fVs_eq, fH_eq, fR_eq] at o
      obtain ⟨h0, ok0⟩ := h.sub nd hL
      refine ⟨pick μ ι, L0, xs0, h0, rens_rel ok0 xs hx r, rens_len hx, ?_⟩
      cases ef : f xs0 L0 with
      | bad => rw [ef] at o; exact o
      | ex e L1 => rw [ef] at o; exact o.elim
      | ok x L1 =>
        rw [ef] at o
        dsimp only at o
        generalize hks : (reach L1 100000 (refsV x ++ (L1.take L0.length).flatMap refsO) []).filter (fun i => !Nat.blt i L0.length) = ks at o
        split at o
        · rename_i x' La Lb e1 e2 e3
          split at o
          · rename_i nk
            intro μ1 v H1 le1 h1 rv
            obtain ⟨le', h', ok'⟩ := h.back nd hL le1 h1 (nodupN_ok nk) (fun i hi => by
              rw [← hks, List.mem_filter] at hi
              have := hi.2
              rw [Bool.not_eq_true'] at this
              exact Nat.le_of_not_lt fun z => by rw [Nat.blt_eq.mpr z] at this; cases this) e2 e3
            exact o _ v H1 le' h' (ren_rel ok' x e1 rv)
          · exact o.elim
        · exact o.elim
    · exact o.elim
  · exact o.elim
end
theorem FnA.frame {P : Program} {w : World} {K : PySem.W.Frag} {mg : Str → Option Value} {base : Heap} {G : Gm} {k : Nat} {fa : Addr} {f : List LV → LH → Rs LV} (F : FnA P w K mg base G k fa f) : FnA P w K mg base G k fa (LT.frame f) := by
  obtain ⟨fd, ps, b, ar, F⟩ := F
  refine ⟨fd, ps, b, fun xs L h => ?_, F.imp fun vs H Q E ⟨hn, μ, L, xs, h, r, o⟩ => ?_⟩
  · unfold LT.frame at h
    dsimp only at h
    split at h
    · split at h
      · rename_i xs0 L0 hx hL
        rw [fVs_eq, fH_eq, fR_eq] at h
        rw [← rens_len hx]
        exact ar xs0 L0 fun e => by rw [e] at h; exact h rfl
      · exact absurd rfl h
    · exact absurd rfl h
  · obtain ⟨μ0, L0, xs0, h0, r0, _, o0⟩ := frame_out h r o
    exact ⟨hn, μ0, L0, xs0, h0, r0, o0⟩
end LT

set_option Elab.async false
set_option linter.all false
set_option autoImplicit false
set_option maxRecDepth 100000
set_option maxHeartbeats 400000
namespace LT
open PySem PySem.Spec L2
/-! ### equality that computes -/
def eqNs : List Nat → List Nat → Bool
  | [], [] => true
  | x :: xs, y :: ys => Nat.beq x y && eqNs xs ys
  | _, _ => false
theorem eqNs_ok : ∀ {xs ys : List Nat}, eqNs xs ys = true → xs = ys
  | [], [], _ => rfl
  | [], _ :: _, h => by cases h
  | _ :: _, [], h => by cases h
  | x :: xs, y :: ys, h => by
    unfold eqNs at h
    rw [Bool.and_eq_true_iff] at h
    rw [nbeq.mp h.1, eqNs_ok h.2]
def eqS (x y : Str) : Bool := eqNs x.cps.toList y.cps.toList
theorem eqS_ok {x y : Str} (h : eqS x y = true) : x = y := by
  have := eqNs_ok h
  obtain ⟨a⟩ := x
  obtain ⟨b⟩ := y
  have e : a = b := Array.toList_inj.mp this
  rw [e]
def eqI : Int → Int → Bool
  | .ofNat m, .ofNat n => Nat.beq m n
  | .negSucc m, .negSucc n => Nat.beq m n
  | _, _ => false
theorem eqI_ok : ∀ {x y : Int}, eqI x y = true → x = y
  | .ofNat m, .ofNat n, h => by rw [nbeq.mp h]
  | .negSucc m, .negSucc n, h => by rw [nbeq.mp h]
  | .ofNat _, .negSucc _, h => by cases h
  | .negSucc _, .ofNat _, h => by cases h
def eqB : Bool → Bool → Bool
  | true, true => true
  | false, false => true
  | _, _ => false
theorem eqB_ok {x y : Bool} (h : eqB x y = true) : x = y := by cases x <;> cases y <;> first | rfl | cases h
mutual
def eqX : LV → LV → Bool
  | .non, .non => true
  | .bl a, .bl b => eqB a b
  | .int a, .int b => eqI a b
  | .str a, .str b => eqS a b
  | .tup a, .tup b => eqXs a b
  | .ref a, .ref b => Nat.beq a b
  | _, _ => false
def eqXs : List LV → List LV → Bool
  | [], [] => true
  | x :: xs, y :: ys => eqX x y && eqXs xs ys
  | _, _ => false
end
mutual
theorem eqX_ok : ∀ (x y : LV), eqX x y = true → x = y
  | .non, y, h => by cases y <;> first | rfl | (unfold eqX at h; cases h)
  | .bl a, y, h => by cases y <;> first | (unfold eqX at h; rw [eqB_ok h]) | (unfold eqX at h; cases h)
  | .int a, y, h => by cases y <;> first | (unfold eqX at h; rw [eqI_ok h]) | (unfold eqX at h; cases h)
  | .str a, y, h => by cases y <;> first | (unfold eqX at h; rw [eqS_ok h]) | (unfold eqX at h; cases h)
  | .tup a, y, h => by cases y <;> first | (unfold eqX at h; rw [eqXs_ok a _ h]) | (unfold eqX at h; cases h)
  | .ref a, y, h => by cases y <;> first | (unfold eqX at h; rw [nbeq.mp h]) | (unfold eqX at h; cases h)
theorem eqXs_ok : ∀ (xs ys : List LV), eqXs xs ys = true → xs = ys
  | [], [], _ => rfl
  | [], _ :: _, h => by unfold eqXs at h; cases h
  | _ :: _, [], h => by unfold eqXs at h; cases h
  | x :: xs, y :: ys, h => by
    unfold eqXs at h
    rw [Bool.and_eq_true_iff] at h
    rw [eqX_ok x y h.1, eqXs_ok xs ys h.2]
end
def eqKs : List (LV × LV) → List (LV × LV) → Bool
  | [], [] => true
  | (a, b) :: r, (c, d) :: s => eqX a c && (eqX b d && eqKs r s)
  | _, _ => false
theorem eqKs_ok : ∀ {xs ys : List (LV × LV)}, eqKs xs ys = true → xs = ys
  | [], [], _ => rfl
  | [], _ :: _, h => by cases h
  | _ :: _, [], h => by cases h
  | (a, b) :: r, (c, d) :: s, h => by
    unfold eqKs at h
    rw [Bool.and_eq_true_iff, Bool.and_eq_true_iff] at h
    rw [eqX_ok _ _ h.1, eqX_ok _ _ h.2.1, eqKs_ok h.2.2]
def eqFs : List (Nat × LV) → List (Nat × LV) → Bool
  | [], [] => true
  | (a, b) :: r, (c, d) :: s => Nat.beq a c && (eqX b d && eqFs r s)
  | _, _ => false
theorem eqFs_ok : ∀ {xs ys : List (Nat × LV)}, eqFs xs ys = true → xs = ys
  | [], [], _ => rfl
  | [], _ :: _, h => by cases h
  | _ :: _, [], h => by cases h
  | (a, b) :: r, (c, d) :: s, h => by
    unfold eqFs at h
    rw [Bool.and_eq_true_iff, Bool.and_eq_true_iff] at h
    rw [nbeq.mp h.1, eqX_ok _ _ h.2.1, eqFs_ok h.2.2]
def eqOb : LO → LO → Bool
  | .lst a, .lst b => eqXs a b
  | .fz a, .fz b => eqXs a b
  | .dct v a, .dct u b => Nat.beq v u && eqKs a b
  | .obj c a, .obj d b => Nat.beq c d && eqFs a b
  | _, _ => false
theorem eqOb_ok : ∀ {x y : LO}, eqOb x y = true → x = y
  | .lst a, .lst b, h => by rw [eqXs_ok a b h]
  | .fz a, .fz b, h => by rw [eqXs_ok a b h]
  | .dct v a, .dct u b, h => by
    unfold eqOb at h
    rw [Bool.and_eq_true_iff] at h
    rw [nbeq.mp h.1, eqKs_ok h.2]
  | .obj c a, .obj d b, h => by
    unfold eqOb at h
    rw [Bool.and_eq_true_iff] at h
    rw [nbeq.mp h.1, eqFs_ok h.2]
  | .lst _, .fz _, h => by cases h
  | .lst _, .dct _ _, h => by cases h
  | .lst _, .obj _ _, h => by cases h
  | .fz _, .lst _, h => by cases h
  | .fz _, .dct _ _, h => by cases h
  | .fz _, .obj _ _, h => by cases h
  | .dct _ _, .lst _, h => by cases h
  | .dct _ _, .fz _, h => by cases h
  | .dct _ _, .obj _ _, h => by cases h
  | .obj _ _, .lst _, h => by cases h
  | .obj _ _, .fz _, h => by cases h
  | .obj _ _, .dct _ _, h => by cases h
def eqH : LH → LH → Bool
  | [], [] => true
  | x :: xs, y :: ys => eqOb x y && eqH xs ys
  | _, _ => false
theorem eqH_ok : ∀ {xs ys : LH}, eqH xs ys = true → xs = ys
  | [], [], _ => rfl
  | [], _ :: _, h => by cases h
  | _ :: _, [], h => by cases h
  | x :: xs, y :: ys, h => by
    unfold eqH at h
    rw [Bool.and_eq_true_iff] at h
    rw [eqOb_ok h.1, eqH_ok h.2]
/-! ### known answers -/
structure Me where
  xs : List LV
  L : LH
  x : LV
  L' : LH
def isMe (g : List LV → LH → Rs LV) (e : Me) : Bool := match g e.xs e.L with
  | .ok x L' => eqX x e.x && eqH L' e.L'
  | _ => false
theorem isMe_ok {g : List LV → LH → Rs LV} {e : Me} (h : isMe g e = true) : g e.xs e.L = .ok e.x e.L' := by
  unfold isMe at h
  split at h
  · rename_i x L' he
    rw [Bool.and_eq_true_iff] at h
    rw [he, eqX_ok _ _ h.1, eqH_ok h.2]
  · cases h
def memo : List Me → (List LV → LH → Rs LV) → List LV → LH → Rs LV
  | [], g, xs, L => g xs L
  | e :: r, g, xs, L => if (eqXs xs e.xs && eqH L e.L) = true then .ok e.x e.L' else memo r g xs L
theorem memo_eq {g : List LV → LH → Rs LV} : ∀ {t : List Me}, (t.all fun e => isMe g e) = true → memo t g = g
  | [], _ => rfl
  | e :: r, h => by
    rw [List.all_cons, Bool.and_eq_true_iff] at h
    funext xs L
    unfold memo
    split
    · rename_i he
      rw [Bool.and_eq_true_iff] at he
      rw [eqXs_ok _ _ he.1, eqH_ok he.2]
      exact (isMe_ok h.1).symm
    · rw [memo_eq h.2]
theorem FnA.memo {P : Program} {w : World} {K : PySem.W.Frag} {mg : Str → Option Value} {base : Heap} {G : Gm} {k : Nat} {fa : Addr} {f : List LV → LH → Rs LV} {t : List Me} (h : (t.all fun e => isMe f e) = true) (F : FnA P w K mg base G k fa f) : FnA P w K mg base G k fa (LT.memo t f) := by
  rw [memo_eq h]
  exact F
end LT

set_option Elab.async false
set_option linter.all false
set_option autoImplicit false
set_option maxRecDepth 100000
set_option maxHeartbeats 400000
/-! ### store and heap brought to a form that can be read, ahead of a statement -/
namespace LT
open PySem PySem.Spec L2
def fW {α : Type} (x : LV) (k : LV → α) : α := match x with
  | .non => k .non
  | .bl b => fB b fun b => k (.bl b)
  | .int i => fI i fun i => k (.int i)
  | .str x => k (.str x)
  | .tup xs => k (.tup xs)
  | .ref n => fN n fun n => k (.ref n)
theorem fW_eq {α : Type} (x : LV) (k : LV → α) : fW x k = k x := by
  cases x <;> simp only [fW, fB_eq, fI_eq, fN_eq]
def fSp {α : Type} : List LV → (List LV → α) → α
  | [], k => k []
  | x :: r, k => fW x fun x => fSp r fun r => k (x :: r)
theorem fSp_eq {α : Type} : ∀ (xs : List LV) (k : List LV → α), fSp xs k = k xs
  | [], k => rfl
  | x :: r, k => by unfold fSp; rw [fW_eq, fSp_eq r]
def fSpK {α : Type} : List (LV × LV) → (List (LV × LV) → α) → α
  | [], k => k []
  | (a, b) :: r, k => fW a fun a => fW b fun b => fSpK r fun r => k ((a, b) :: r)
theorem fSpK_eq {α : Type} : ∀ (xs : List (LV × LV)) (k : List (LV × LV) → α), fSpK xs k = k xs
  | [], k => rfl
  | (a, b) :: r, k => by unfold fSpK; rw [fW_eq, fW_eq, fSpK_eq r]
def fSpF {α : Type} : List (Nat × LV) → (List (Nat × LV) → α) → α
  | [], k => k []
  | (a, b) :: r, k => fN a fun a => fW b fun b => fSpF r fun r => k ((a, b) :: r)
theorem fSpF_eq {α : Type} : ∀ (xs : List (Nat × LV)) (k : List (Nat × LV) → α), fSpF xs k = k xs
  | [], k => rfl
  | (a, b) :: r, k => by unfold fSpF; rw [fN_eq, fW_eq, fSpF_eq r]
def fOs {α : Type} (o : LO) (k : LO → α) : α := match o with
  | .lst xs => fSp xs fun xs => k (.lst xs)
  | .fz xs => fSp xs fun xs => k (.fz xs)
  | .dct v kvs => fN v fun v => fSpK kvs fun kvs => k (.dct v kvs)
  | .obj c fs => fN c fun c => fSpF fs fun fs => k (.obj c fs)
theorem fOs_eq {α : Type} (o : LO) (k : LO → α) : fOs o k = k o := by
  cases o <;> simp only [fOs, fSp_eq, fSpK_eq, fSpF_eq, fN_eq]
def fHs {α : Type} : LH → (LH → α) → α
  | [], k => k []
  | o :: r, k => fOs o fun o => fHs r fun r => k (o :: r)
theorem fHs_eq {α : Type} : ∀ (L : LH) (k : LH → α), fHs L k = k L
  | [], k => rfl
  | o :: r, k => by unfold fHs; rw [fOs_eq, fHs_eq r]
def fLS {α : Type} : LS → (LS → α) → α
  | [], k => k []
  | none :: r, k => fLS r fun r => k (none :: r)
  | some x :: r, k => fV x fun x => fLS r fun r => k (some x :: r)
theorem fLS_eq {α : Type} : ∀ (l : LS) (k : LS → α), fLS l k = k l
  | [], k => rfl
  | none :: r, k => by unfold fLS; rw [fLS_eq r]
  | some x :: r, k => by unfold fLS; rw [fV_eq, fLS_eq r]
def frc (m : Ls) : Ls := fun l L => fLS l fun l => fHs L fun L => m l L
theorem frc_eq (m : Ls) : frc m = m := by
  funext l L
  unfold frc
  rw [fLS_eq, fHs_eq]
section
variable {X : Cx} {G : Gm} {W : WX}
theorem jb_frc {st : List Stmt} {m : Ls} (h : JB X G W st m) : JB X G W st (frc m) := by rw [frc_eq]; exact h
end
end LT

set_option Elab.async false
set_option maxRecDepth 100000
namespace K06
open PySem LT
def s_0 : Str := ⟨#[99, 104, 97, 114, 103, 101]⟩
def s_1 : Str := ⟨#[114, 105, 100, 101]⟩
def ob_0 : LO := .obj 0 [(0, .int 3), (1, .tup [.tup [.int 0, .int 1, .int 1, .int 2], .tup [.int 0, .int 1, .int 2, .int 1], .tup [.int 1, .int 2, .int 1, .int 1]]), (2, .tup [.int 1]), (3, .tup [.tup [.int 0, .int 2], .tup [.int 2, .int 0]]), (4, .int 5), (5, .int 4)]
def ob_1 : LO := .dct 4 [(.tup [.int 1, .int 0], .tup [.tup [.str s_1, .int 1], .tup [.str s_0], .tup [.str s_1, .int 2], .tup [.str s_1, .int 2]]), (.tup [.int 2, .int 0], .tup [.tup [.str s_1, .int 1], .tup [.str s_1, .int 2]]), (.tup [.int 2, .int 1], .tup [.tup [.str s_1, .int 1], .tup [.str s_0], .tup [.str s_1, .int 2]]), (.tup [.int 2, .int 2], .tup [.tup [.str s_1, .int 1], .tup [.str s_0], .tup [.str s_0], .tup [.str s_1, .int 2]])]
def ob_2 : LO := .obj 0 [(0, .int 2), (1, .tup [.tup [.int 0, .int 1, .int 1, .int 1]]), (2, .tup [.int 0]), (3, .tup [.tup [.int 0, .int 1], .tup [.int 1, .int 0]]), (4, .int 4), (5, .int 3)]
def ob_3 : LO := .dct 4 [(.tup [.int 0, .int 0], .tup [.tup [.str s_0], .tup [.str s_0], .tup [.str s_1, .int 0], .tup [.str s_1, .int 0]]), (.tup [.int 1, .int 0], .tup [.tup [.str s_0], .tup [.str s_1, .int 0]]), (.tup [.int 1, .int 1], .tup [.tup [.str s_0], .tup [.str s_0], .tup [.str s_1, .int 0]]), (.tup [.int 1, .int 2], .tup [.tup [.str s_0], .tup [.str s_0], .tup [.str s_0], .tup [.str s_1, .int 0]])]
def ob_4 : LO := .dct 1 [(.tup [.int 0, .int 0], .tup [.tup [.str s_0], .tup [.str s_0], .tup [.str s_1, .int 0], .tup [.str s_1, .int 0]])]
def ob_5 : LO := .dct 7 [(.tup [.int 0, .int 0], .tup [.tup [.str s_1, .int 0], .tup [.str s_0], .tup [.str s_1, .int 0], .tup [.str s_1, .int 0]]), (.tup [.int 0, .int 1], .tup [.tup [.str s_1, .int 0]]), (.tup [.int 0, .int 2], .tup [.tup [.str s_1, .int 0], .tup [.str s_0]]), (.tup [.int 0, .int 3], .tup [.tup [.str s_1, .int 0], .tup [.str s_0], .tup [.str s_0]]), (.tup [.int 1, .int 0], .tup [.tup [.str s_1, .int 0], .tup [.str s_1, .int 0]]), (.tup [.int 1, .int 1], .tup [.tup [.str s_1, .int 0], .tup [.str s_0], .tup [.str s_1, .int 0]]), (.tup [.int 1, .int 2], .tup [.tup [.str s_1, .int 0], .tup [.str s_0], .tup [.str s_0], .tup [.str s_1, .int 0]])]
def ob_6 : LO := .dct 5 [(.tup [.int 0, .int 0], .tup [.tup [.str s_0], .tup [.str s_1, .int 0], .tup [.str s_1, .int 0]]), (.tup [.int 0, .int 1], .tup [.tup [.str s_0], .tup [.str s_0], .tup [.str s_1, .int 0], .tup [.str s_1, .int 0]]), (.tup [.int 1, .int 0], .tup [.tup [.str s_1, .int 0]]), (.tup [.int 1, .int 1], .tup [.tup [.str s_0], .tup [.str s_1, .int 0]]), (.tup [.int 1, .int 2], .tup [.tup [.str s_0], .tup [.str s_0], .tup [.str s_1, .int 0]])]
def ob_7 : LO := .dct 2 [(.tup [.int 0, .int 0], .tup [.tup [.str s_0], .tup [.str s_1, .int 0], .tup [.str s_1, .int 0]]), (.tup [.int 0, .int 1], .tup [.tup [.str s_0], .tup [.str s_0], .tup [.str s_1, .int 0], .tup [.str s_1, .int 0]])]
def ob_8 : LO := .dct 6 [(.tup [.int 0, .int 0], .tup [.tup [.str s_1, .int 0], .tup [.str s_1, .int 0]]), (.tup [.int 0, .int 1], .tup [.tup [.str s_0], .tup [.str s_1, .int 0], .tup [.str s_1, .int 0]]), (.tup [.int 0, .int 2], .tup [.tup [.str s_0], .tup [.str s_1, .int 0], .tup [.str s_1, .int 0], .tup [.str s_0]]), (.tup [.int 1, .int 0], .tup [.tup [.str s_0], .tup [.str s_1, .int 0], .tup [.str s_1, .int 0], .tup [.str s_1, .int 0]]), (.tup [.int 1, .int 1], .tup [.tup [.str s_1, .int 0]]), (.tup [.int 1, .int 2], .tup [.tup [.str s_0], .tup [.str s_1, .int 0]])]
def ob_9 : LO := .dct 4 [(.tup [.int 0, .int 0], .tup [.tup [.str s_1, .int 0], .tup [.str s_1, .int 0]]), (.tup [.int 0, .int 1], .tup [.tup [.str s_0], .tup [.str s_1, .int 0], .tup [.str s_1, .int 0]]), (.tup [.int 0, .int 2], .tup [.tup [.str s_0], .tup [.str s_1, .int 0], .tup [.str s_1, .int 0], .tup [.str s_0]]), (.tup [.int 1, .int 0], .tup [.tup [.str s_0], .tup [.str s_1, .int 0], .tup [.str s_1, .int 0], .tup [.str s_1, .int 0]])]
def ob_10 : LO := .dct 6 [(.tup [.int 0, .int 1], .tup [.tup [.str s_1, .int 0], .tup [.str s_1, .int 0]]), (.tup [.int 0, .int 2], .tup [.tup [.str s_1, .int 0], .tup [.str s_1, .int 0], .tup [.str s_0]]), (.tup [.int 0, .int 3], .tup [.tup [.str s_1, .int 0], .tup [.str s_1, .int 0], .tup [.str s_0], .tup [.str s_0]]), (.tup [.int 1, .int 0], .tup [.tup [.str s_1, .int 0], .tup [.str s_1, .int 0], .tup [.str s_1, .int 0]]), (.tup [.int 1, .int 1], .tup [.tup [.str s_1, .int 0], .tup [.str s_1, .int 0], .tup [.str s_0], .tup [.str s_1, .int 0]]), (.tup [.int 1, .int 2], .tup [.tup [.str s_1, .int 0]])]
def ob_11 : LO := .dct 5 [(.tup [.int 0, .int 1], .tup [.tup [.str s_1, .int 0], .tup [.str s_1, .int 0]]), (.tup [.int 0, .int 2], .tup [.tup [.str s_1, .int 0], .tup [.str s_1, .int 0], .tup [.str s_0]]), (.tup [.int 0, .int 3], .tup [.tup [.str s_1, .int 0], .tup [.str s_1, .int 0], .tup [.str s_0], .tup [.str s_0]]), (.tup [.int 1, .int 0], .tup [.tup [.str s_1, .int 0], .tup [.str s_1, .int 0], .tup [.str s_1, .int 0]]), (.tup [.int 1, .int 1], .tup [.tup [.str s_1, .int 0], .tup [.str s_1, .int 0], .tup [.str s_0], .tup [.str s_1, .int 0]])]
def ob_12 : LO := .dct 2 [(.tup [.int 1, .int 0], .tup [.tup [.str s_1, .int 0], .tup [.str s_0], .tup [.str s_1, .int 0]]), (.tup [.int 1, .int 1], .tup [.tup [.str s_1, .int 0], .tup [.str s_0], .tup [.str s_0], .tup [.str s_1, .int 0]])]
def ob_13 : LO := .dct 6 [(.tup [.int 0, .int 0], .tup [.tup [.str s_1, .int 0]]), (.tup [.int 0, .int 1], .tup [.tup [.str s_1, .int 0], .tup [.str s_0]]), (.tup [.int 0, .int 2], .tup [.tup [.str s_1, .int 0], .tup [.str s_0], .tup [.str s_0]]), (.tup [.int 0, .int 3], .tup [.tup [.str s_1, .int 0], .tup [.str s_0], .tup [.str s_0], .tup [.str s_0]]), (.tup [.int 1, .int 0], .tup [.tup [.str s_1, .int 0], .tup [.str s_0], .tup [.str s_1, .int 0]]), (.tup [.int 1, .int 1], .tup [.tup [.str s_1, .int 0], .tup [.str s_0], .tup [.str s_0], .tup [.str s_1, .int 0]])]
def ob_14 : LO := .dct 4 [(.tup [.int 0, .int 0], .tup [.tup [.str s_1, .int 0], .tup [.str s_0], .tup [.str s_1, .int 0], .tup [.str s_1, .int 0]]), (.tup [.int 1, .int 0], .tup [.tup [.str s_1, .int 0], .tup [.str s_1, .int 0]]), (.tup [.int 1, .int 1], .tup [.tup [.str s_1, .int 0], .tup [.str s_0], .tup [.str s_1, .int 0]]), (.tup [.int 1, .int 2], .tup [.tup [.str s_1, .int 0], .tup [.str s_0], .tup [.str s_0], .tup [.str s_1, .int 0]])]
def ob_15 : LO := .dct 4 [(.tup [.int 0, .int 0], .tup [.tup [.str s_1, .int 0], .tup [.str s_1, .int 0], .tup [.str s_1, .int 0]]), (.tup [.int 0, .int 1], .tup [.tup [.str s_1, .int 0], .tup [.str s_0], .tup [.str s_1, .int 0], .tup [.str s_1, .int 0]]), (.tup [.int 1, .int 1], .tup [.tup [.str s_1, .int 0], .tup [.str s_1, .int 0]]), (.tup [.int 1, .int 2], .tup [.tup [.str s_1, .int 0], .tup [.str s_0], .tup [.str s_1, .int 0]])]
def ob_16 : LO := .dct 6 [(.tup [.int 0, .int 0], .tup [.tup [.str s_1, .int 0], .tup [.str s_1, .int 0], .tup [.str s_1, .int 0]]), (.tup [.int 0, .int 1], .tup [.tup [.str s_1, .int 0], .tup [.str s_0], .tup [.str s_1, .int 0], .tup [.str s_1, .int 0]]), (.tup [.int 0, .int 2], .tup [.tup [.str s_1, .int 0]]), (.tup [.int 0, .int 3], .tup [.tup [.str s_1, .int 0], .tup [.str s_0]]), (.tup [.int 1, .int 1], .tup [.tup [.str s_1, .int 0], .tup [.str s_1, .int 0]]), (.tup [.int 1, .int 2], .tup [.tup [.str s_1, .int 0], .tup [.str s_0], .tup [.str s_1, .int 0]])]
def ob_17 : LO := .obj 0 [(0, .int 2), (1, .tup [.tup [.int 0, .int 1, .int 1, .int 1]]), (2, .tup [.int 0]), (3, .tup [.tup [.int 0, .int 1], .tup [.int 1, .int 0]]), (4, .int 3), (5, .int 3)]
def ob_18 : LO := .dct 2 [(.tup [.int 1, .int 0], .tup [.tup [.str s_0], .tup [.str s_1, .int 0]]), (.tup [.int 1, .int 1], .tup [.tup [.str s_0], .tup [.str s_0], .tup [.str s_1, .int 0]])]
def ob_19 : LO := .dct 4 [(.tup [.int 0, .int 0], .tup [.tup [.str s_0], .tup [.str s_1, .int 0], .tup [.str s_1, .int 0]]), (.tup [.int 1, .int 0], .tup [.tup [.str s_1, .int 0]]), (.tup [.int 1, .int 1], .tup [.tup [.str s_0], .tup [.str s_1, .int 0]]), (.tup [.int 1, .int 2], .tup [.tup [.str s_0], .tup [.str s_0], .tup [.str s_1, .int 0]])]
def ob_20 : LO := .dct 1 [(.tup [.int 0, .int 0], .tup [.tup [.str s_0], .tup [.str s_1, .int 0], .tup [.str s_1, .int 0]])]
def ob_21 : LO := .dct 4 [(.tup [.int 0, .int 0], .tup [.tup [.str s_1, .int 0], .tup [.str s_1, .int 0]]), (.tup [.int 0, .int 1], .tup [.tup [.str s_0], .tup [.str s_1, .int 0], .tup [.str s_1, .int 0]]), (.tup [.int 1, .int 1], .tup [.tup [.str s_1, .int 0]]), (.tup [.int 1, .int 2], .tup [.tup [.str s_0], .tup [.str s_1, .int 0]])]
def ob_22 : LO := .dct 2 [(.tup [.int 0, .int 0], .tup [.tup [.str s_1, .int 0], .tup [.str s_1, .int 0]]), (.tup [.int 0, .int 1], .tup [.tup [.str s_0], .tup [.str s_1, .int 0], .tup [.str s_1, .int 0]])]
def ob_23 : LO := .dct 4 [(.tup [.int 0, .int 1], .tup [.tup [.str s_1, .int 0], .tup [.str s_1, .int 0]]), (.tup [.int 0, .int 2], .tup [.tup [.str s_1, .int 0], .tup [.str s_1, .int 0], .tup [.str s_0]]), (.tup [.int 1, .int 0], .tup [.tup [.str s_1, .int 0], .tup [.str s_1, .int 0], .tup [.str s_1, .int 0]]), (.tup [.int 1, .int 2], .tup [.tup [.str s_1, .int 0]])]
def ob_24 : LO := .dct 3 [(.tup [.int 0, .int 1], .tup [.tup [.str s_1, .int 0], .tup [.str s_1, .int 0]]), (.tup [.int 0, .int 2], .tup [.tup [.str s_1, .int 0], .tup [.str s_1, .int 0], .tup [.str s_0]]), (.tup [.int 1, .int 0], .tup [.tup [.str s_1, .int 0], .tup [.str s_1, .int 0], .tup [.str s_1, .int 0]])]
def ob_25 : LO := .dct 1 [(.tup [.int 1, .int 0], .tup [.tup [.str s_1, .int 0], .tup [.str s_0], .tup [.str s_1, .int 0]])]
def ob_26 : LO := .dct 4 [(.tup [.int 0, .int 0], .tup [.tup [.str s_1, .int 0]]), (.tup [.int 0, .int 1], .tup [.tup [.str s_1, .int 0], .tup [.str s_0]]), (.tup [.int 0, .int 2], .tup [.tup [.str s_1, .int 0], .tup [.str s_0], .tup [.str s_0]]), (.tup [.int 1, .int 0], .tup [.tup [.str s_1, .int 0], .tup [.str s_0], .tup [.str s_1, .int 0]])]
def ob_27 : LO := .dct 2 [(.tup [.int 1, .int 0], .tup [.tup [.str s_1, .int 0], .tup [.str s_1, .int 0]]), (.tup [.int 1, .int 1], .tup [.tup [.str s_1, .int 0], .tup [.str s_0], .tup [.str s_1, .int 0]])]
def ob_28 : LO := .dct 5 [(.tup [.int 0, .int 1], .tup [.tup [.str s_1, .int 0]]), (.tup [.int 0, .int 2], .tup [.tup [.str s_1, .int 0], .tup [.str s_0]]), (.tup [.int 0, .int 3], .tup [.tup [.str s_1, .int 0], .tup [.str s_0], .tup [.str s_0]]), (.tup [.int 1, .int 0], .tup [.tup [.str s_1, .int 0], .tup [.str s_1, .int 0]]), (.tup [.int 1, .int 1], .tup [.tup [.str s_1, .int 0], .tup [.str s_0], .tup [.str s_1, .int 0]])]
def ob_29 : LO := .dct 3 [(.tup [.int 0, .int 0], .tup [.tup [.str s_1, .int 0], .tup [.str s_1, .int 0], .tup [.str s_1, .int 0]]), (.tup [.int 1, .int 1], .tup [.tup [.str s_1, .int 0], .tup [.str s_1, .int 0]]), (.tup [.int 1, .int 2], .tup [.tup [.str s_1, .int 0], .tup [.str s_0], .tup [.str s_1, .int 0]])]
def ob_30 : LO := .dct 5 [(.tup [.int 0, .int 0], .tup [.tup [.str s_1, .int 0], .tup [.str s_1, .int 0], .tup [.str s_1, .int 0]]), (.tup [.int 0, .int 2], .tup [.tup [.str s_1, .int 0]]), (.tup [.int 0, .int 3], .tup [.tup [.str s_1, .int 0], .tup [.str s_0]]), (.tup [.int 1, .int 1], .tup [.tup [.str s_1, .int 0], .tup [.str s_1, .int 0]]), (.tup [.int 1, .int 2], .tup [.tup [.str s_1, .int 0], .tup [.str s_0], .tup [.str s_1, .int 0]])]
def ob_31 : LO := .obj 0 [(0, .int 2), (1, .tup [.tup [.int 0, .int 1, .int 1, .int 1]]), (2, .tup [.int 0]), (3, .tup [.tup [.int 0, .int 1], .tup [.int 1, .int 0]]), (4, .int 3), (5, .int 1)]
def ob_32 : LO := .dct 1 [(.tup [.int 1, .int 0], .tup [.tup [.str s_0], .tup [.str s_1, .int 0]])]
def ob_33 : LO := .dct 1 [(.tup [.int 1, .int 0], .tup [.tup [.str s_1, .int 0]])]
def ob_34 : LO := .dct 3 [(.tup [.int 0, .int 0], .tup [.tup [.str s_1, .int 0]]), (.tup [.int 0, .int 1], .tup [.tup [.str s_1, .int 0], .tup [.str s_0]]), (.tup [.int 1, .int 0], .tup [.tup [.str s_1, .int 0], .tup [.str s_0], .tup [.str s_1, .int 0]])]
def ob_35 : LO := .obj 0 [(0, .int 2), (1, .tup [.tup [.int 0, .int 1, .int 1, .int 1]]), (2, .tup [.int 0]), (3, .tup [.tup [.int 0, .int 1], .tup [.int 1, .int 0]]), (4, .int 3), (5, .int 2)]
def ob_36 : LO := .dct 3 [(.tup [.int 0, .int 0], .tup [.tup [.str s_0], .tup [.str s_1, .int 0], .tup [.str s_1, .int 0]]), (.tup [.int 1, .int 0], .tup [.tup [.str s_1, .int 0]]), (.tup [.int 1, .int 1], .tup [.tup [.str s_0], .tup [.str s_1, .int 0]])]
def ob_37 : LO := .dct 3 [(.tup [.int 0, .int 0], .tup [.tup [.str s_1, .int 0], .tup [.str s_1, .int 0]]), (.tup [.int 0, .int 1], .tup [.tup [.str s_1, .int 0], .tup [.str s_1, .int 0], .tup [.str s_0]]), (.tup [.int 1, .int 1], .tup [.tup [.str s_1, .int 0]])]
def ob_38 : LO := .dct 2 [(.tup [.int 0, .int 0], .tup [.tup [.str s_1, .int 0], .tup [.str s_1, .int 0]]), (.tup [.int 0, .int 1], .tup [.tup [.str s_1, .int 0], .tup [.str s_1, .int 0], .tup [.str s_0]])]
def ob_39 : LO := .dct 4 [(.tup [.int 0, .int 1], .tup [.tup [.str s_1, .int 0]]), (.tup [.int 0, .int 2], .tup [.tup [.str s_1, .int 0], .tup [.str s_0]]), (.tup [.int 1, .int 0], .tup [.tup [.str s_1, .int 0], .tup [.str s_1, .int 0]]), (.tup [.int 1, .int 1], .tup [.tup [.str s_1, .int 0], .tup [.str s_0], .tup [.str s_1, .int 0]])]
def ob_40 : LO := .obj 0 [(0, .int 2), (1, .tup [.tup [.int 0, .int 1, .int 1, .int 1]]), (2, .tup [.int 0]), (3, .tup [.tup [.int 0, .int 1], .tup [.int 1, .int 0]]), (4, .int 3), (5, .int 4)]
def ob_41 : LO := .dct 5 [(.tup [.int 0, .int 0], .tup [.tup [.str s_1, .int 0], .tup [.str s_1, .int 0]]), (.tup [.int 0, .int 1], .tup [.tup [.str s_0], .tup [.str s_1, .int 0], .tup [.str s_1, .int 0]]), (.tup [.int 1, .int 1], .tup [.tup [.str s_1, .int 0]]), (.tup [.int 1, .int 2], .tup [.tup [.str s_0], .tup [.str s_1, .int 0]]), (.tup [.int 1, .int 3], .tup [.tup [.str s_0], .tup [.str s_0], .tup [.str s_1, .int 0]])]
def ob_42 : LO := .dct 5 [(.tup [.int 0, .int 1], .tup [.tup [.str s_1, .int 0], .tup [.str s_1, .int 0]]), (.tup [.int 0, .int 2], .tup [.tup [.str s_0], .tup [.str s_1, .int 0], .tup [.str s_1, .int 0]]), (.tup [.int 1, .int 0], .tup [.tup [.str s_1, .int 0], .tup [.str s_1, .int 0], .tup [.str s_1, .int 0]]), (.tup [.int 1, .int 2], .tup [.tup [.str s_1, .int 0]]), (.tup [.int 1, .int 3], .tup [.tup [.str s_0], .tup [.str s_1, .int 0]])]
def ob_43 : LO := .dct 3 [(.tup [.int 0, .int 1], .tup [.tup [.str s_1, .int 0], .tup [.str s_1, .int 0]]), (.tup [.int 0, .int 2], .tup [.tup [.str s_0], .tup [.str s_1, .int 0], .tup [.str s_1, .int 0]]), (.tup [.int 1, .int 0], .tup [.tup [.str s_1, .int 0], .tup [.str s_1, .int 0], .tup [.str s_1, .int 0]])]
def ob_44 : LO := .dct 4 [(.tup [.int 0, .int 2], .tup [.tup [.str s_1, .int 0], .tup [.str s_1, .int 0]]), (.tup [.int 0, .int 3], .tup [.tup [.str s_1, .int 0], .tup [.str s_1, .int 0], .tup [.str s_0]]), (.tup [.int 1, .int 1], .tup [.tup [.str s_1, .int 0], .tup [.str s_1, .int 0], .tup [.str s_1, .int 0]]), (.tup [.int 1, .int 3], .tup [.tup [.str s_1, .int 0]])]
def ob_45 : LO := .dct 3 [(.tup [.int 0, .int 2], .tup [.tup [.str s_1, .int 0], .tup [.str s_1, .int 0]]), (.tup [.int 0, .int 3], .tup [.tup [.str s_1, .int 0], .tup [.str s_1, .int 0], .tup [.str s_0]]), (.tup [.int 1, .int 1], .tup [.tup [.str s_1, .int 0], .tup [.str s_1, .int 0], .tup [.str s_1, .int 0]])]
def ob_46 : LO := .dct 6 [(.tup [.int 0, .int 0], .tup [.tup [.str s_1, .int 0], .tup [.str s_1, .int 0], .tup [.str s_1, .int 0]]), (.tup [.int 0, .int 2], .tup [.tup [.str s_1, .int 0]]), (.tup [.int 0, .int 3], .tup [.tup [.str s_1, .int 0], .tup [.str s_0]]), (.tup [.int 0, .int 4], .tup [.tup [.str s_1, .int 0], .tup [.str s_0], .tup [.str s_0]]), (.tup [.int 1, .int 1], .tup [.tup [.str s_1, .int 0], .tup [.str s_1, .int 0]]), (.tup [.int 1, .int 2], .tup [.tup [.str s_1, .int 0], .tup [.str s_0], .tup [.str s_1, .int 0]])]
def ob_47 : LO := .dct 3 [(.tup [.int 0, .int 1], .tup [.tup [.str s_1, .int 0], .tup [.str s_1, .int 0], .tup [.str s_1, .int 0]]), (.tup [.int 1, .int 2], .tup [.tup [.str s_1, .int 0], .tup [.str s_1, .int 0]]), (.tup [.int 1, .int 3], .tup [.tup [.str s_1, .int 0], .tup [.str s_0], .tup [.str s_1, .int 0]])]
def ob_48 : LO := .dct 5 [(.tup [.int 0, .int 1], .tup [.tup [.str s_1, .int 0], .tup [.str s_1, .int 0], .tup [.str s_1, .int 0]]), (.tup [.int 0, .int 3], .tup [.tup [.str s_1, .int 0]]), (.tup [.int 0, .int 4], .tup [.tup [.str s_1, .int 0], .tup [.str s_0]]), (.tup [.int 1, .int 2], .tup [.tup [.str s_1, .int 0], .tup [.str s_1, .int 0]]), (.tup [.int 1, .int 3], .tup [.tup [.str s_1, .int 0], .tup [.str s_0], .tup [.str s_1, .int 0]])]
def ob_49 : LO := .obj 0 [(0, .int 2), (1, .tup [.tup [.int 0, .int 1, .int 1, .int 1]]), (2, .tup [.int 0]), (3, .tup [.tup [.int 0, .int 1], .tup [.int 1, .int 0]]), (4, .int 3), (5, .int 5)]
def ob_50 : LO := .dct 6 [(.tup [.int 0, .int 1], .tup [.tup [.str s_1, .int 0], .tup [.str s_1, .int 0]]), (.tup [.int 0, .int 2], .tup [.tup [.str s_0], .tup [.str s_1, .int 0], .tup [.str s_1, .int 0]]), (.tup [.int 1, .int 0], .tup [.tup [.str s_1, .int 0], .tup [.str s_1, .int 0], .tup [.str s_1, .int 0]]), (.tup [.int 1, .int 2], .tup [.tup [.str s_1, .int 0]]), (.tup [.int 1, .int 3], .tup [.tup [.str s_0], .tup [.str s_1, .int 0]]), (.tup [.int 1, .int 4], .tup [.tup [.str s_0], .tup [.str s_0], .tup [.str s_1, .int 0]])]
def ob_51 : LO := .dct 5 [(.tup [.int 0, .int 2], .tup [.tup [.str s_1, .int 0], .tup [.str s_1, .int 0]]), (.tup [.int 0, .int 3], .tup [.tup [.str s_0], .tup [.str s_1, .int 0], .tup [.str s_1, .int 0]]), (.tup [.int 1, .int 1], .tup [.tup [.str s_1, .int 0], .tup [.str s_1, .int 0], .tup [.str s_1, .int 0]]), (.tup [.int 1, .int 3], .tup [.tup [.str s_1, .int 0]]), (.tup [.int 1, .int 4], .tup [.tup [.str s_0], .tup [.str s_1, .int 0]])]
def ob_52 : LO := .dct 3 [(.tup [.int 0, .int 2], .tup [.tup [.str s_1, .int 0], .tup [.str s_1, .int 0]]), (.tup [.int 0, .int 3], .tup [.tup [.str s_0], .tup [.str s_1, .int 0], .tup [.str s_1, .int 0]]), (.tup [.int 1, .int 1], .tup [.tup [.str s_1, .int 0], .tup [.str s_1, .int 0], .tup [.str s_1, .int 0]])]
def ob_53 : LO := .dct 4 [(.tup [.int 0, .int 3], .tup [.tup [.str s_1, .int 0], .tup [.str s_1, .int 0]]), (.tup [.int 0, .int 4], .tup [.tup [.str s_1, .int 0], .tup [.str s_1, .int 0], .tup [.str s_0]]), (.tup [.int 1, .int 2], .tup [.tup [.str s_1, .int 0], .tup [.str s_1, .int 0], .tup [.str s_1, .int 0]]), (.tup [.int 1, .int 4], .tup [.tup [.str s_1, .int 0]])]
def ob_54 : LO := .dct 3 [(.tup [.int 0, .int 3], .tup [.tup [.str s_1, .int 0], .tup [.str s_1, .int 0]]), (.tup [.int 0, .int 4], .tup [.tup [.str s_1, .int 0], .tup [.str s_1, .int 0], .tup [.str s_0]]), (.tup [.int 1, .int 2], .tup [.tup [.str s_1, .int 0], .tup [.str s_1, .int 0], .tup [.str s_1, .int 0]])]
def ob_55 : LO := .dct 6 [(.tup [.int 0, .int 1], .tup [.tup [.str s_1, .int 0], .tup [.str s_1, .int 0], .tup [.str s_1, .int 0]]), (.tup [.int 0, .int 3], .tup [.tup [.str s_1, .int 0]]), (.tup [.int 0, .int 4], .tup [.tup [.str s_1, .int 0], .tup [.str s_0]]), (.tup [.int 0, .int 5], .tup [.tup [.str s_1, .int 0], .tup [.str s_0], .tup [.str s_0]]), (.tup [.int 1, .int 2], .tup [.tup [.str s_1, .int 0], .tup [.str s_1, .int 0]]), (.tup [.int 1, .int 3], .tup [.tup [.str s_1, .int 0], .tup [.str s_0], .tup [.str s_1, .int 0]])]
def ob_56 : LO := .dct 3 [(.tup [.int 0, .int 2], .tup [.tup [.str s_1, .int 0], .tup [.str s_1, .int 0], .tup [.str s_1, .int 0]]), (.tup [.int 1, .int 3], .tup [.tup [.str s_1, .int 0], .tup [.str s_1, .int 0]]), (.tup [.int 1, .int 4], .tup [.tup [.str s_1, .int 0], .tup [.str s_0], .tup [.str s_1, .int 0]])]
def ob_57 : LO := .dct 5 [(.tup [.int 0, .int 2], .tup [.tup [.str s_1, .int 0], .tup [.str s_1, .int 0], .tup [.str s_1, .int 0]]), (.tup [.int 0, .int 4], .tup [.tup [.str s_1, .int 0]]), (.tup [.int 0, .int 5], .tup [.tup [.str s_1, .int 0], .tup [.str s_0]]), (.tup [.int 1, .int 3], .tup [.tup [.str s_1, .int 0], .tup [.str s_1, .int 0]]), (.tup [.int 1, .int 4], .tup [.tup [.str s_1, .int 0], .tup [.str s_0], .tup [.str s_1, .int 0]])]
def ob_58 : LO := .obj 0 [(0, .int 2), (1, .tup [.tup [.int 0, .int 1, .int 1, .int 1]]), (2, .tup [.int 0]), (3, .tup [.tup [.int 0, .int 1], .tup [.int 1, .int 0]]), (4, .int 3), (5, .int 6)]
def ob_59 : LO := .dct 6 [(.tup [.int 0, .int 2], .tup [.tup [.str s_1, .int 0], .tup [.str s_1, .int 0]]), (.tup [.int 0, .int 3], .tup [.tup [.str s_0], .tup [.str s_1, .int 0], .tup [.str s_1, .int 0]]), (.tup [.int 1, .int 1], .tup [.tup [.str s_1, .int 0], .tup [.str s_1, .int 0], .tup [.str s_1, .int 0]]), (.tup [.int 1, .int 3], .tup [.tup [.str s_1, .int 0]]), (.tup [.int 1, .int 4], .tup [.tup [.str s_0], .tup [.str s_1, .int 0]]), (.tup [.int 1, .int 5], .tup [.tup [.str s_0], .tup [.str s_0], .tup [.str s_1, .int 0]])]
def ob_60 : LO := .dct 5 [(.tup [.int 0, .int 3], .tup [.tup [.str s_1, .int 0], .tup [.str s_1, .int 0]]), (.tup [.int 0, .int 4], .tup [.tup [.str s_0], .tup [.str s_1, .int 0], .tup [.str s_1, .int 0]]), (.tup [.int 1, .int 2], .tup [.tup [.str s_1, .int 0], .tup [.str s_1, .int 0], .tup [.str s_1, .int 0]]), (.tup [.int 1, .int 4], .tup [.tup [.str s_1, .int 0]]), (.tup [.int 1, .int 5], .tup [.tup [.str s_0], .tup [.str s_1, .int 0]])]
def ob_61 : LO := .dct 3 [(.tup [.int 0, .int 3], .tup [.tup [.str s_1, .int 0], .tup [.str s_1, .int 0]]), (.tup [.int 0, .int 4], .tup [.tup [.str s_0], .tup [.str s_1, .int 0], .tup [.str s_1, .int 0]]), (.tup [.int 1, .int 2], .tup [.tup [.str s_1, .int 0], .tup [.str s_1, .int 0], .tup [.str s_1, .int 0]])]
def ob_62 : LO := .dct 4 [(.tup [.int 0, .int 4], .tup [.tup [.str s_1, .int 0], .tup [.str s_1, .int 0]]), (.tup [.int 0, .int 5], .tup [.tup [.str s_1, .int 0], .tup [.str s_1, .int 0], .tup [.str s_0]]), (.tup [.int 1, .int 3], .tup [.tup [.str s_1, .int 0], .tup [.str s_1, .int 0], .tup [.str s_1, .int 0]]), (.tup [.int 1, .int 5], .tup [.tup [.str s_1, .int 0]])]
def ob_63 : LO := .dct 3 [(.tup [.int 0, .int 4], .tup [.tup [.str s_1, .int 0], .tup [.str s_1, .int 0]]), (.tup [.int 0, .int 5], .tup [.tup [.str s_1, .int 0], .tup [.str s_1, .int 0], .tup [.str s_0]]), (.tup [.int 1, .int 3], .tup [.tup [.str s_1, .int 0], .tup [.str s_1, .int 0], .tup [.str s_1, .int 0]])]
def ob_64 : LO := .dct 6 [(.tup [.int 0, .int 2], .tup [.tup [.str s_1, .int 0], .tup [.str s_1, .int 0], .tup [.str s_1, .int 0]]), (.tup [.int 0, .int 4], .tup [.tup [.str s_1, .int 0]]), (.tup [.int 0, .int 5], .tup [.tup [.str s_1, .int 0], .tup [.str s_0]]), (.tup [.int 0, .int 6], .tup [.tup [.str s_1, .int 0], .tup [.str s_0], .tup [.str s_0]]), (.tup [.int 1, .int 3], .tup [.tup [.str s_1, .int 0], .tup [.str s_1, .int 0]]), (.tup [.int 1, .int 4], .tup [.tup [.str s_1, .int 0], .tup [.str s_0], .tup [.str s_1, .int 0]])]
def ob_65 : LO := .dct 3 [(.tup [.int 0, .int 3], .tup [.tup [.str s_1, .int 0], .tup [.str s_1, .int 0], .tup [.str s_1, .int 0]]), (.tup [.int 1, .int 4], .tup [.tup [.str s_1, .int 0], .tup [.str s_1, .int 0]]), (.tup [.int 1, .int 5], .tup [.tup [.str s_1, .int 0], .tup [.str s_0], .tup [.str s_1, .int 0]])]
def ob_66 : LO := .dct 5 [(.tup [.int 0, .int 3], .tup [.tup [.str s_1, .int 0], .tup [.str s_1, .int 0], .tup [.str s_1, .int 0]]), (.tup [.int 0, .int 5], .tup [.tup [.str s_1, .int 0]]), (.tup [.int 0, .int 6], .tup [.tup [.str s_1, .int 0], .tup [.str s_0]]), (.tup [.int 1, .int 4], .tup [.tup [.str s_1, .int 0], .tup [.str s_1, .int 0]]), (.tup [.int 1, .int 5], .tup [.tup [.str s_1, .int 0], .tup [.str s_0], .tup [.str s_1, .int 0]])]
def ob_67 : LO := .obj 0 [(0, .int 2), (1, .tup [.tup [.int 0, .int 1, .int 1, .int 1]]), (2, .tup [.int 0]), (3, .tup [.tup [.int 0, .int 1], .tup [.int 1, .int 0]]), (4, .int 3), (5, .int 7)]
def ob_68 : LO := .dct 6 [(.tup [.int 0, .int 3], .tup [.tup [.str s_1, .int 0], .tup [.str s_1, .int 0]]), (.tup [.int 0, .int 4], .tup [.tup [.str s_0], .tup [.str s_1, .int 0], .tup [.str s_1, .int 0]]), (.tup [.int 1, .int 2], .tup [.tup [.str s_1, .int 0], .tup [.str s_1, .int 0], .tup [.str s_1, .int 0]]), (.tup [.int 1, .int 4], .tup [.tup [.str s_1, .int 0]]), (.tup [.int 1, .int 5], .tup [.tup [.str s_0], .tup [.str s_1, .int 0]]), (.tup [.int 1, .int 6], .tup [.tup [.str s_0], .tup [.str s_0], .tup [.str s_1, .int 0]])]
def ob_69 : LO := .dct 5 [(.tup [.int 0, .int 4], .tup [.tup [.str s_1, .int 0], .tup [.str s_1, .int 0]]), (.tup [.int 0, .int 5], .tup [.tup [.str s_0], .tup [.str s_1, .int 0], .tup [.str s_1, .int 0]]), (.tup [.int 1, .int 3], .tup [.tup [.str s_1, .int 0], .tup [.str s_1, .int 0], .tup [.str s_1, .int 0]]), (.tup [.int 1, .int 5], .tup [.tup [.str s_1, .int 0]]), (.tup [.int 1, .int 6], .tup [.tup [.str s_0], .tup [.str s_1, .int 0]])]
def ob_70 : LO := .dct 3 [(.tup [.int 0, .int 4], .tup [.tup [.str s_1, .int 0], .tup [.str s_1, .int 0]]), (.tup [.int 0, .int 5], .tup [.tup [.str s_0], .tup [.str s_1, .int 0], .tup [.str s_1, .int 0]]), (.tup [.int 1, .int 3], .tup [.tup [.str s_1, .int 0], .tup [.str s_1, .int 0], .tup [.str s_1, .int 0]])]
def ob_71 : LO := .dct 4 [(.tup [.int 0, .int 5], .tup [.tup [.str s_1, .int 0], .tup [.str s_1, .int 0]]), (.tup [.int 0, .int 6], .tup [.tup [.str s_1, .int 0], .tup [.str s_1, .int 0], .tup [.str s_0]]), (.tup [.int 1, .int 4], .tup [.tup [.str s_1, .int 0], .tup [.str s_1, .int 0], .tup [.str s_1, .int 0]]), (.tup [.int 1, .int 6], .tup [.tup [.str s_1, .int 0]])]
def ob_72 : LO := .dct 3 [(.tup [.int 0, .int 5], .tup [.tup [.str s_1, .int 0], .tup [.str s_1, .int 0]]), (.tup [.int 0, .int 6], .tup [.tup [.str s_1, .int 0], .tup [.str s_1, .int 0], .tup [.str s_0]]), (.tup [.int 1, .int 4], .tup [.tup [.str s_1, .int 0], .tup [.str s_1, .int 0], .tup [.str s_1, .int 0]])]
def ob_73 : LO := .dct 6 [(.tup [.int 0, .int 3], .tup [.tup [.str s_1, .int 0], .tup [.str s_1, .int 0], .tup [.str s_1, .int 0]]), (.tup [.int 0, .int 5], .tup [.tup [.str s_1, .int 0]]), (.tup [.int 0, .int 6], .tup [.tup [.str s_1, .int 0], .tup [.str s_0]]), (.tup [.int 0, .int 7], .tup [.tup [.str s_1, .int 0], .tup [.str s_0], .tup [.str s_0]]), (.tup [.int 1, .int 4], .tup [.tup [.str s_1, .int 0], .tup [.str s_1, .int 0]]), (.tup [.int 1, .int 5], .tup [.tup [.str s_1, .int 0], .tup [.str s_0], .tup [.str s_1, .int 0]])]
def ob_74 : LO := .dct 3 [(.tup [.int 0, .int 4], .tup [.tup [.str s_1, .int 0], .tup [.str s_1, .int 0], .tup [.str s_1, .int 0]]), (.tup [.int 1, .int 5], .tup [.tup [.str s_1, .int 0], .tup [.str s_1, .int 0]]), (.tup [.int 1, .int 6], .tup [.tup [.str s_1, .int 0], .tup [.str s_0], .tup [.str s_1, .int 0]])]
def ob_75 : LO := .dct 5 [(.tup [.int 0, .int 4], .tup [.tup [.str s_1, .int 0], .tup [.str s_1, .int 0], .tup [.str s_1, .int 0]]), (.tup [.int 0, .int 6], .tup [.tup [.str s_1, .int 0]]), (.tup [.int 0, .int 7], .tup [.tup [.str s_1, .int 0], .tup [.str s_0]]), (.tup [.int 1, .int 5], .tup [.tup [.str s_1, .int 0], .tup [.str s_1, .int 0]]), (.tup [.int 1, .int 6], .tup [.tup [.str s_1, .int 0], .tup [.str s_0], .tup [.str s_1, .int 0]])]
def ob_76 : LO := .obj 0 [(0, .int 2), (1, .tup [.tup [.int 0, .int 1, .int 1, .int 1]]), (2, .tup [.int 0]), (3, .tup [.tup [.int 0, .int 1], .tup [.int 1, .int 0]]), (4, .int 3), (5, .int 8)]
def ob_77 : LO := .dct 6 [(.tup [.int 0, .int 4], .tup [.tup [.str s_1, .int 0], .tup [.str s_1, .int 0]]), (.tup [.int 0, .int 5], .tup [.tup [.str s_0], .tup [.str s_1, .int 0], .tup [.str s_1, .int 0]]), (.tup [.int 1, .int 3], .tup [.tup [.str s_1, .int 0], .tup [.str s_1, .int 0], .tup [.str s_1, .int 0]]), (.tup [.int 1, .int 5], .tup [.tup [.str s_1, .int 0]]), (.tup [.int 1, .int 6], .tup [.tup [.str s_0], .tup [.str s_1, .int 0]]), (.tup [.int 1, .int 7], .tup [.tup [.str s_0], .tup [.str s_0], .tup [.str s_1, .int 0]])]
def ob_78 : LO := .dct 5 [(.tup [.int 0, .int 5], .tup [.tup [.str s_1, .int 0], .tup [.str s_1, .int 0]]), (.tup [.int 0, .int 6], .tup [.tup [.str s_0], .tup [.str s_1, .int 0], .tup [.str s_1, .int 0]]), (.tup [.int 1, .int 4], .tup [.tup [.str s_1, .int 0], .tup [.str s_1, .int 0], .tup [.str s_1, .int 0]]), (.tup [.int 1, .int 6], .tup [.tup [.str s_1, .int 0]]), (.tup [.int 1, .int 7], .tup [.tup [.str s_0], .tup [.str s_1, .int 0]])]
def ob_79 : LO := .dct 3 [(.tup [.int 0, .int 5], .tup [.tup [.str s_1, .int 0], .tup [.str s_1, .int 0]]), (.tup [.int 0, .int 6], .tup [.tup [.str s_0], .tup [.str s_1, .int 0], .tup [.str s_1, .int 0]]), (.tup [.int 1, .int 4], .tup [.tup [.str s_1, .int 0], .tup [.str s_1, .int 0], .tup [.str s_1, .int 0]])]
def ob_80 : LO := .dct 4 [(.tup [.int 0, .int 6], .tup [.tup [.str s_1, .int 0], .tup [.str s_1, .int 0]]), (.tup [.int 0, .int 7], .tup [.tup [.str s_1, .int 0], .tup [.str s_1, .int 0], .tup [.str s_0]]), (.tup [.int 1, .int 5], .tup [.tup [.str s_1, .int 0], .tup [.str s_1, .int 0], .tup [.str s_1, .int 0]]), (.tup [.int 1, .int 7], .tup [.tup [.str s_1, .int 0]])]
def ob_81 : LO := .dct 3 [(.tup [.int 0, .int 6], .tup [.tup [.str s_1, .int 0], .tup [.str s_1, .int 0]]), (.tup [.int 0, .int 7], .tup [.tup [.str s_1, .int 0], .tup [.str s_1, .int 0], .tup [.str s_0]]), (.tup [.int 1, .int 5], .tup [.tup [.str s_1, .int 0], .tup [.str s_1, .int 0], .tup [.str s_1, .int 0]])]
def ob_82 : LO := .dct 6 [(.tup [.int 0, .int 4], .tup [.tup [.str s_1, .int 0], .tup [.str s_1, .int 0], .tup [.str s_1, .int 0]]), (.tup [.int 0, .int 6], .tup [.tup [.str s_1, .int 0]]), (.tup [.int 0, .int 7], .tup [.tup [.str s_1, .int 0], .tup [.str s_0]]), (.tup [.int 0, .int 8], .tup [.tup [.str s_1, .int 0], .tup [.str s_0], .tup [.str s_0]]), (.tup [.int 1, .int 5], .tup [.tup [.str s_1, .int 0], .tup [.str s_1, .int 0]]), (.tup [.int 1, .int 6], .tup [.tup [.str s_1, .int 0], .tup [.str s_0], .tup [.str s_1, .int 0]])]
def ob_83 : LO := .dct 3 [(.tup [.int 0, .int 5], .tup [.tup [.str s_1, .int 0], .tup [.str s_1, .int 0], .tup [.str s_1, .int 0]]), (.tup [.int 1, .int 6], .tup [.tup [.str s_1, .int 0], .tup [.str s_1, .int 0]]), (.tup [.int 1, .int 7], .tup [.tup [.str s_1, .int 0], .tup [.str s_0], .tup [.str s_1, .int 0]])]
def ob_84 : LO := .dct 5 [(.tup [.int 0, .int 5], .tup [.tup [.str s_1, .int 0], .tup [.str s_1, .int 0], .tup [.str s_1, .int 0]]), (.tup [.int 0, .int 7], .tup [.tup [.str s_1, .int 0]]), (.tup [.int 0, .int 8], .tup [.tup [.str s_1, .int 0], .tup [.str s_0]]), (.tup [.int 1, .int 6], .tup [.tup [.str s_1, .int 0], .tup [.str s_1, .int 0]]), (.tup [.int 1, .int 7], .tup [.tup [.str s_1, .int 0], .tup [.str s_0], .tup [.str s_1, .int 0]])]
def ob_85 : LO := .obj 0 [(0, .int 2), (1, .tup [.tup [.int 0, .int 1, .int 1, .int 1]]), (2, .tup [.int 0]), (3, .tup [.tup [.int 0, .int 1], .tup [.int 1, .int 0]]), (4, .int 4), (5, .int 1)]
def ob_86 : LO := .obj 0 [(0, .int 2), (1, .tup [.tup [.int 0, .int 1, .int 1, .int 1]]), (2, .tup [.int 0]), (3, .tup [.tup [.int 0, .int 1], .tup [.int 1, .int 0]]), (4, .int 4), (5, .int 2)]
def ob_87 : LO := .dct 3 [(.tup [.int 0, .int 0], .tup [.tup [.str s_0], .tup [.str s_0], .tup [.str s_1, .int 0], .tup [.str s_1, .int 0]]), (.tup [.int 1, .int 0], .tup [.tup [.str s_0], .tup [.str s_1, .int 0]]), (.tup [.int 1, .int 1], .tup [.tup [.str s_0], .tup [.str s_0], .tup [.str s_1, .int 0]])]
def ob_88 : LO := .dct 4 [(.tup [.int 0, .int 0], .tup [.tup [.str s_0], .tup [.str s_1, .int 0], .tup [.str s_1, .int 0]]), (.tup [.int 0, .int 1], .tup [.tup [.str s_0], .tup [.str s_1, .int 0], .tup [.str s_1, .int 0], .tup [.str s_0]]), (.tup [.int 1, .int 0], .tup [.tup [.str s_1, .int 0]]), (.tup [.int 1, .int 1], .tup [.tup [.str s_0], .tup [.str s_1, .int 0]])]
def ob_89 : LO := .dct 2 [(.tup [.int 0, .int 0], .tup [.tup [.str s_0], .tup [.str s_1, .int 0], .tup [.str s_1, .int 0]]), (.tup [.int 0, .int 1], .tup [.tup [.str s_0], .tup [.str s_1, .int 0], .tup [.str s_1, .int 0], .tup [.str s_0]])]
def ob_90 : LO := .dct 5 [(.tup [.int 0, .int 0], .tup [.tup [.str s_1, .int 0], .tup [.str s_1, .int 0]]), (.tup [.int 0, .int 1], .tup [.tup [.str s_1, .int 0], .tup [.str s_1, .int 0], .tup [.str s_0]]), (.tup [.int 0, .int 2], .tup [.tup [.str s_1, .int 0], .tup [.str s_1, .int 0], .tup [.str s_0], .tup [.str s_0]]), (.tup [.int 1, .int 0], .tup [.tup [.str s_1, .int 0], .tup [.str s_1, .int 0], .tup [.str s_0], .tup [.str s_1, .int 0]]), (.tup [.int 1, .int 1], .tup [.tup [.str s_1, .int 0]])]
def ob_91 : LO := .dct 4 [(.tup [.int 0, .int 0], .tup [.tup [.str s_1, .int 0], .tup [.str s_1, .int 0]]), (.tup [.int 0, .int 1], .tup [.tup [.str s_1, .int 0], .tup [.str s_1, .int 0], .tup [.str s_0]]), (.tup [.int 0, .int 2], .tup [.tup [.str s_1, .int 0], .tup [.str s_1, .int 0], .tup [.str s_0], .tup [.str s_0]]), (.tup [.int 1, .int 0], .tup [.tup [.str s_1, .int 0], .tup [.str s_1, .int 0], .tup [.str s_0], .tup [.str s_1, .int 0]])]
def ob_92 : LO := .dct 5 [(.tup [.int 0, .int 0], .tup [.tup [.str s_1, .int 0]]), (.tup [.int 0, .int 1], .tup [.tup [.str s_1, .int 0], .tup [.str s_0]]), (.tup [.int 0, .int 2], .tup [.tup [.str s_1, .int 0], .tup [.str s_0], .tup [.str s_0]]), (.tup [.int 1, .int 0], .tup [.tup [.str s_1, .int 0], .tup [.str s_0], .tup [.str s_1, .int 0]]), (.tup [.int 1, .int 1], .tup [.tup [.str s_1, .int 0], .tup [.str s_0], .tup [.str s_0], .tup [.str s_1, .int 0]])]
def ob_93 : LO := .dct 3 [(.tup [.int 0, .int 0], .tup [.tup [.str s_1, .int 0], .tup [.str s_0], .tup [.str s_1, .int 0], .tup [.str s_1, .int 0]]), (.tup [.int 1, .int 0], .tup [.tup [.str s_1, .int 0], .tup [.str s_1, .int 0]]), (.tup [.int 1, .int 1], .tup [.tup [.str s_1, .int 0], .tup [.str s_0], .tup [.str s_1, .int 0]])]
def ob_94 : LO := .dct 5 [(.tup [.int 0, .int 0], .tup [.tup [.str s_1, .int 0], .tup [.str s_0], .tup [.str s_1, .int 0], .tup [.str s_1, .int 0]]), (.tup [.int 0, .int 1], .tup [.tup [.str s_1, .int 0]]), (.tup [.int 0, .int 2], .tup [.tup [.str s_1, .int 0], .tup [.str s_0]]), (.tup [.int 1, .int 0], .tup [.tup [.str s_1, .int 0], .tup [.str s_1, .int 0]]), (.tup [.int 1, .int 1], .tup [.tup [.str s_1, .int 0], .tup [.str s_0], .tup [.str s_1, .int 0]])]
def ob_95 : LO := .obj 0 [(0, .int 2), (1, .tup [.tup [.int 0, .int 1, .int 1, .int 1]]), (2, .tup [.int 0, .int 1]), (3, .tup [.tup [.int 0, .int 1]]), (4, .int 4), (5, .int 1)]
def ob_96 : LO := .dct 3 [(.tup [.int 0, .int 0], .tup [.tup [.str s_0], .tup [.str s_1, .int 0], .tup [.str s_0], .tup [.str s_1, .int 0]]), (.tup [.int 1, .int 0], .tup [.tup [.str s_0], .tup [.str s_1, .int 0]]), (.tup [.int 1, .int 1], .tup [.tup [.str s_0], .tup [.str s_1, .int 0], .tup [.str s_0]])]
def ob_97 : LO := .dct 4 [(.tup [.int 0, .int 0], .tup [.tup [.str s_1, .int 0], .tup [.str s_0], .tup [.str s_1, .int 0]]), (.tup [.int 0, .int 1], .tup [.tup [.str s_1, .int 0], .tup [.str s_0], .tup [.str s_1, .int 0], .tup [.str s_0]]), (.tup [.int 1, .int 0], .tup [.tup [.str s_1, .int 0]]), (.tup [.int 1, .int 1], .tup [.tup [.str s_1, .int 0], .tup [.str s_0]])]
def ob_98 : LO := .dct 1 [(.tup [.int 1, .int 0], .tup [.tup [.str s_0], .tup [.str s_1, .int 0], .tup [.str s_0], .tup [.str s_1, .int 0]])]
def ob_99 : LO := .dct 2 [(.tup [.int 1, .int 0], .tup [.tup [.str s_1, .int 0], .tup [.str s_0], .tup [.str s_1, .int 0]]), (.tup [.int 1, .int 1], .tup [.tup [.str s_1, .int 0], .tup [.str s_0], .tup [.str s_1, .int 0], .tup [.str s_0]])]
def ob_100 : LO := .dct 8 [(.tup [.int 0, .int 0], .ref 2), (.tup [.int 0, .int 1], .ref 5), (.tup [.int 0, .int 2], .ref 8), (.tup [.int 0, .int 3], .ref 11), (.tup [.int 1, .int 0], .ref 14), (.tup [.int 1, .int 1], .ref 17), (.tup [.int 1, .int 2], .ref 20), (.tup [.int 1, .int 3], .ref 23)]
def ob_101 : LO := .dct 2 [(.tup [.int 0, .int 1], .ref 3), (.tup [.int 1, .int 0], .ref 4)]
def ob_102 : LO := .dct 2 [(.tup [.int 0, .int 1], .ref 6), (.tup [.int 1, .int 0], .ref 7)]
def ob_103 : LO := .dct 2 [(.tup [.int 0, .int 1], .ref 9), (.tup [.int 1, .int 0], .ref 10)]
def ob_104 : LO := .dct 2 [(.tup [.int 0, .int 1], .ref 12), (.tup [.int 1, .int 0], .ref 13)]
def ob_105 : LO := .dct 2 [(.tup [.int 0, .int 1], .ref 15), (.tup [.int 1, .int 0], .ref 16)]
def ob_106 : LO := .dct 2 [(.tup [.int 0, .int 1], .ref 18), (.tup [.int 1, .int 0], .ref 19)]
def ob_107 : LO := .dct 2 [(.tup [.int 0, .int 1], .ref 21), (.tup [.int 1, .int 0], .ref 22)]
def ob_108 : LO := .dct 2 [(.tup [.int 0, .int 1], .ref 24), (.tup [.int 1, .int 0], .ref 25)]
def ob_109 : LO := .dct 1 [(.tup [.int 1, .int 0], .tup [.int 0, .tup [.int 0, .int 1]])]
def ob_110 : LO := .dct 2 [(.tup [.int 0, .int 0], .tup [.int 0, .tup [.int 1, .int 0]]), (.tup [.int 1, .int 0], .tup [.int 0, .tup [.int 0, .int 1]])]
def ob_111 : LO := .dct 1 [(.tup [.int 0, .int 0], .tup [.int 0, .tup [.int 1, .int 0]]), (.tup [.int 1, .int 0], .tup [.int 0, .tup [.int 0, .int 1]])]
def ob_112 : LO := .dct 2 [(.tup [.int 0, .int 1], .tup [.int 1, .tup [.int 1, .int 0]]), (.tup [.int 1, .int 1], .tup [.int 1, .tup [.int 0, .int 1]])]
def ob_113 : LO := .dct 2 [(.tup [.int 0, .int 0], .tup [.int 0, .tup [.int 1, .int 0]]), (.tup [.int 1, .int 0], .tup [.int 0, .tup [.int 0, .int 1]]), (.tup [.int 0, .int 1], .tup [.int 1, .tup [.int 1, .int 0]]), (.tup [.int 1, .int 1], .tup [.int 1, .tup [.int 0, .int 1]])]
def ob_114 : LO := .dct 2 [(.tup [.int 0, .int 2], .tup [.int 2, .tup [.int 1, .int 0]]), (.tup [.int 1, .int 2], .tup [.int 2, .tup [.int 0, .int 1]])]
def ob_115 : LO := .dct 3 [(.tup [.int 0, .int 0], .tup [.int 0, .tup [.int 1, .int 0]]), (.tup [.int 1, .int 0], .tup [.int 0, .tup [.int 0, .int 1]]), (.tup [.int 0, .int 1], .tup [.int 1, .tup [.int 1, .int 0]]), (.tup [.int 1, .int 1], .tup [.int 1, .tup [.int 0, .int 1]]), (.tup [.int 0, .int 2], .tup [.int 2, .tup [.int 1, .int 0]]), (.tup [.int 1, .int 2], .tup [.int 2, .tup [.int 0, .int 1]])]
def ob_116 : LO := .dct 2 [(.tup [.int 0, .int 3], .tup [.int 3, .tup [.int 0, .int 1]]), (.tup [.int 1, .int 3], .tup [.int 3, .tup [.int 0, .int 1]])]
def ob_117 : LO := .dct 4 [(.tup [.int 0, .int 0], .tup [.int 0, .tup [.int 1, .int 0]]), (.tup [.int 1, .int 0], .tup [.int 0, .tup [.int 0, .int 1]]), (.tup [.int 0, .int 1], .tup [.int 1, .tup [.int 1, .int 0]]), (.tup [.int 1, .int 1], .tup [.int 1, .tup [.int 0, .int 1]]), (.tup [.int 0, .int 2], .tup [.int 2, .tup [.int 1, .int 0]]), (.tup [.int 1, .int 2], .tup [.int 2, .tup [.int 0, .int 1]]), (.tup [.int 0, .int 3], .tup [.int 3, .tup [.int 0, .int 1]]), (.tup [.int 1, .int 3], .tup [.int 3, .tup [.int 0, .int 1]])]
def ob_118 : LO := .dct 4 [(.tup [.int 0, .int 0], .ref 2), (.tup [.int 0, .int 1], .ref 5), (.tup [.int 1, .int 0], .ref 8), (.tup [.int 1, .int 1], .ref 11)]
def ob_119 : LO := .dct 3 [(.tup [.int 0, .int 0], .tup [.int 0, .tup [.int 1, .int 0]]), (.tup [.int 0, .int 1], .tup [.int 0, .tup [.int 1, .int 0]]), (.tup [.int 1, .int 0], .tup [.int 0, .tup [.int 0, .int 1]])]
def ob_120 : LO := .dct 1 [(.tup [.int 0, .int 0], .tup [.int 0, .tup [.int 1, .int 0]]), (.tup [.int 0, .int 1], .tup [.int 0, .tup [.int 1, .int 0]]), (.tup [.int 1, .int 0], .tup [.int 0, .tup [.int 0, .int 1]])]
def ob_121 : LO := .dct 1 [(.tup [.int 1, .int 1], .tup [.int 1, .tup [.int 0, .int 1]])]
def ob_122 : LO := .dct 2 [(.tup [.int 0, .int 0], .tup [.int 0, .tup [.int 1, .int 0]]), (.tup [.int 0, .int 1], .tup [.int 0, .tup [.int 1, .int 0]]), (.tup [.int 1, .int 0], .tup [.int 0, .tup [.int 0, .int 1]]), (.tup [.int 1, .int 1], .tup [.int 1, .tup [.int 0, .int 1]])]
def ob_123 : LO := .dct 6 [(.tup [.int 0, .int 0], .ref 2), (.tup [.int 0, .int 1], .ref 5), (.tup [.int 0, .int 2], .ref 8), (.tup [.int 1, .int 0], .ref 11), (.tup [.int 1, .int 1], .ref 14), (.tup [.int 1, .int 2], .ref 17)]
def ob_124 : LO := .dct 2 [(.tup [.int 0, .int 2], .tup [.int 2, .tup [.int 0, .int 1]]), (.tup [.int 1, .int 2], .tup [.int 2, .tup [.int 0, .int 1]])]
def ob_125 : LO := .dct 3 [(.tup [.int 0, .int 0], .tup [.int 0, .tup [.int 1, .int 0]]), (.tup [.int 1, .int 0], .tup [.int 0, .tup [.int 0, .int 1]]), (.tup [.int 0, .int 1], .tup [.int 1, .tup [.int 1, .int 0]]), (.tup [.int 1, .int 1], .tup [.int 1, .tup [.int 0, .int 1]]), (.tup [.int 0, .int 2], .tup [.int 2, .tup [.int 0, .int 1]]), (.tup [.int 1, .int 2], .tup [.int 2, .tup [.int 0, .int 1]])]
def ob_126 : LO := .dct 10 [(.tup [.int 0, .int 0], .ref 2), (.tup [.int 0, .int 1], .ref 5), (.tup [.int 0, .int 2], .ref 8), (.tup [.int 0, .int 3], .ref 11), (.tup [.int 0, .int 4], .ref 14), (.tup [.int 1, .int 0], .ref 17), (.tup [.int 1, .int 1], .ref 20), (.tup [.int 1, .int 2], .ref 23), (.tup [.int 1, .int 3], .ref 26), (.tup [.int 1, .int 4], .ref 29)]
def ob_127 : LO := .dct 2 [(.tup [.int 0, .int 1], .ref 27), (.tup [.int 1, .int 0], .ref 28)]
def ob_128 : LO := .dct 2 [(.tup [.int 0, .int 1], .ref 30), (.tup [.int 1, .int 0], .ref 31)]
def ob_129 : LO := .dct 2 [(.tup [.int 0, .int 3], .tup [.int 3, .tup [.int 1, .int 0]]), (.tup [.int 1, .int 3], .tup [.int 3, .tup [.int 0, .int 1]])]
def ob_130 : LO := .dct 4 [(.tup [.int 0, .int 0], .tup [.int 0, .tup [.int 1, .int 0]]), (.tup [.int 1, .int 0], .tup [.int 0, .tup [.int 0, .int 1]]), (.tup [.int 0, .int 1], .tup [.int 1, .tup [.int 1, .int 0]]), (.tup [.int 1, .int 1], .tup [.int 1, .tup [.int 0, .int 1]]), (.tup [.int 0, .int 2], .tup [.int 2, .tup [.int 1, .int 0]]), (.tup [.int 1, .int 2], .tup [.int 2, .tup [.int 0, .int 1]]), (.tup [.int 0, .int 3], .tup [.int 3, .tup [.int 1, .int 0]]), (.tup [.int 1, .int 3], .tup [.int 3, .tup [.int 0, .int 1]])]
def ob_131 : LO := .dct 2 [(.tup [.int 0, .int 4], .tup [.int 4, .tup [.int 0, .int 1]]), (.tup [.int 1, .int 4], .tup [.int 4, .tup [.int 0, .int 1]])]
def ob_132 : LO := .dct 5 [(.tup [.int 0, .int 0], .tup [.int 0, .tup [.int 1, .int 0]]), (.tup [.int 1, .int 0], .tup [.int 0, .tup [.int 0, .int 1]]), (.tup [.int 0, .int 1], .tup [.int 1, .tup [.int 1, .int 0]]), (.tup [.int 1, .int 1], .tup [.int 1, .tup [.int 0, .int 1]]), (.tup [.int 0, .int 2], .tup [.int 2, .tup [.int 1, .int 0]]), (.tup [.int 1, .int 2], .tup [.int 2, .tup [.int 0, .int 1]]), (.tup [.int 0, .int 3], .tup [.int 3, .tup [.int 1, .int 0]]), (.tup [.int 1, .int 3], .tup [.int 3, .tup [.int 0, .int 1]]), (.tup [.int 0, .int 4], .tup [.int 4, .tup [.int 0, .int 1]]), (.tup [.int 1, .int 4], .tup [.int 4, .tup [.int 0, .int 1]])]
def ob_133 : LO := .dct 12 [(.tup [.int 0, .int 0], .ref 2), (.tup [.int 0, .int 1], .ref 5), (.tup [.int 0, .int 2], .ref 8), (.tup [.int 0, .int 3], .ref 11), (.tup [.int 0, .int 4], .ref 14), (.tup [.int 0, .int 5], .ref 17), (.tup [.int 1, .int 0], .ref 20), (.tup [.int 1, .int 1], .ref 23), (.tup [.int 1, .int 2], .ref 26), (.tup [.int 1, .int 3], .ref 29), (.tup [.int 1, .int 4], .ref 32), (.tup [.int 1, .int 5], .ref 35)]
def ob_134 : LO := .dct 2 [(.tup [.int 0, .int 1], .ref 33), (.tup [.int 1, .int 0], .ref 34)]
def ob_135 : LO := .dct 2 [(.tup [.int 0, .int 1], .ref 36), (.tup [.int 1, .int 0], .ref 37)]
def ob_136 : LO := .dct 2 [(.tup [.int 0, .int 4], .tup [.int 4, .tup [.int 1, .int 0]]), (.tup [.int 1, .int 4], .tup [.int 4, .tup [.int 0, .int 1]])]
def ob_137 : LO := .dct 5 [(.tup [.int 0, .int 0], .tup [.int 0, .tup [.int 1, .int 0]]), (.tup [.int 1, .int 0], .tup [.int 0, .tup [.int 0, .int 1]]), (.tup [.int 0, .int 1], .tup [.int 1, .tup [.int 1, .int 0]]), (.tup [.int 1, .int 1], .tup [.int 1, .tup [.int 0, .int 1]]), (.tup [.int 0, .int 2], .tup [.int 2, .tup [.int 1, .int 0]]), (.tup [.int 1, .int 2], .tup [.int 2, .tup [.int 0, .int 1]]), (.tup [.int 0, .int 3], .tup [.int 3, .tup [.int 1, .int 0]]), (.tup [.int 1, .int 3], .tup [.int 3, .tup [.int 0, .int 1]]), (.tup [.int 0, .int 4], .tup [.int 4, .tup [.int 1, .int 0]]), (.tup [.int 1, .int 4], .tup [.int 4, .tup [.int 0, .int 1]])]
def ob_138 : LO := .dct 2 [(.tup [.int 0, .int 5], .tup [.int 5, .tup [.int 0, .int 1]]), (.tup [.int 1, .int 5], .tup [.int 5, .tup [.int 0, .int 1]])]
def ob_139 : LO := .dct 6 [(.tup [.int 0, .int 0], .tup [.int 0, .tup [.int 1, .int 0]]), (.tup [.int 1, .int 0], .tup [.int 0, .tup [.int 0, .int 1]]), (.tup [.int 0, .int 1], .tup [.int 1, .tup [.int 1, .int 0]]), (.tup [.int 1, .int 1], .tup [.int 1, .tup [.int 0, .int 1]]), (.tup [.int 0, .int 2], .tup [.int 2, .tup [.int 1, .int 0]]), (.tup [.int 1, .int 2], .tup [.int 2, .tup [.int 0, .int 1]]), (.tup [.int 0, .int 3], .tup [.int 3, .tup [.int 1, .int 0]]), (.tup [.int 1, .int 3], .tup [.int 3, .tup [.int 0, .int 1]]), (.tup [.int 0, .int 4], .tup [.int 4, .tup [.int 1, .int 0]]), (.tup [.int 1, .int 4], .tup [.int 4, .tup [.int 0, .int 1]]), (.tup [.int 0, .int 5], .tup [.int 5, .tup [.int 0, .int 1]]), (.tup [.int 1, .int 5], .tup [.int 5, .tup [.int 0, .int 1]])]
def ob_140 : LO := .dct 14 [(.tup [.int 0, .int 0], .ref 2), (.tup [.int 0, .int 1], .ref 5), (.tup [.int 0, .int 2], .ref 8), (.tup [.int 0, .int 3], .ref 11), (.tup [.int 0, .int 4], .ref 14), (.tup [.int 0, .int 5], .ref 17), (.tup [.int 0, .int 6], .ref 20), (.tup [.int 1, .int 0], .ref 23), (.tup [.int 1, .int 1], .ref 26), (.tup [.int 1, .int 2], .ref 29), (.tup [.int 1, .int 3], .ref 32), (.tup [.int 1, .int 4], .ref 35), (.tup [.int 1, .int 5], .ref 38), (.tup [.int 1, .int 6], .ref 41)]
def ob_141 : LO := .dct 2 [(.tup [.int 0, .int 1], .ref 39), (.tup [.int 1, .int 0], .ref 40)]
def ob_142 : LO := .dct 2 [(.tup [.int 0, .int 1], .ref 42), (.tup [.int 1, .int 0], .ref 43)]
def ob_143 : LO := .dct 2 [(.tup [.int 0, .int 5], .tup [.int 5, .tup [.int 1, .int 0]]), (.tup [.int 1, .int 5], .tup [.int 5, .tup [.int 0, .int 1]])]
def ob_144 : LO := .dct 6 [(.tup [.int 0, .int 0], .tup [.int 0, .tup [.int 1, .int 0]]), (.tup [.int 1, .int 0], .tup [.int 0, .tup [.int 0, .int 1]]), (.tup [.int 0, .int 1], .tup [.int 1, .tup [.int 1, .int 0]]), (.tup [.int 1, .int 1], .tup [.int 1, .tup [.int 0, .int 1]]), (.tup [.int 0, .int 2], .tup [.int 2, .tup [.int 1, .int 0]]), (.tup [.int 1, .int 2], .tup [.int 2, .tup [.int 0, .int 1]]), (.tup [.int 0, .int 3], .tup [.int 3, .tup [.int 1, .int 0]]), (.tup [.int 1, .int 3], .tup [.int 3, .tup [.int 0, .int 1]]), (.tup [.int 0, .int 4], .tup [.int 4, .tup [.int 1, .int 0]]), (.tup [.int 1, .int 4], .tup [.int 4, .tup [.int 0, .int 1]]), (.tup [.int 0, .int 5], .tup [.int 5, .tup [.int 1, .int 0]]), (.tup [.int 1, .int 5], .tup [.int 5, .tup [.int 0, .int 1]])]
def ob_145 : LO := .dct 2 [(.tup [.int 0, .int 6], .tup [.int 6, .tup [.int 0, .int 1]]), (.tup [.int 1, .int 6], .tup [.int 6, .tup [.int 0, .int 1]])]
def ob_146 : LO := .dct 7 [(.tup [.int 0, .int 0], .tup [.int 0, .tup [.int 1, .int 0]]), (.tup [.int 1, .int 0], .tup [.int 0, .tup [.int 0, .int 1]]), (.tup [.int 0, .int 1], .tup [.int 1, .tup [.int 1, .int 0]]), (.tup [.int 1, .int 1], .tup [.int 1, .tup [.int 0, .int 1]]), (.tup [.int 0, .int 2], .tup [.int 2, .tup [.int 1, .int 0]]), (.tup [.int 1, .int 2], .tup [.int 2, .tup [.int 0, .int 1]]), (.tup [.int 0, .int 3], .tup [.int 3, .tup [.int 1, .int 0]]), (.tup [.int 1, .int 3], .tup [.int 3, .tup [.int 0, .int 1]]), (.tup [.int 0, .int 4], .tup [.int 4, .tup [.int 1, .int 0]]), (.tup [.int 1, .int 4], .tup [.int 4, .tup [.int 0, .int 1]]), (.tup [.int 0, .int 5], .tup [.int 5, .tup [.int 1, .int 0]]), (.tup [.int 1, .int 5], .tup [.int 5, .tup [.int 0, .int 1]]), (.tup [.int 0, .int 6], .tup [.int 6, .tup [.int 0, .int 1]]), (.tup [.int 1, .int 6], .tup [.int 6, .tup [.int 0, .int 1]])]
def ob_147 : LO := .dct 16 [(.tup [.int 0, .int 0], .ref 2), (.tup [.int 0, .int 1], .ref 5), (.tup [.int 0, .int 2], .ref 8), (.tup [.int 0, .int 3], .ref 11), (.tup [.int 0, .int 4], .ref 14), (.tup [.int 0, .int 5], .ref 17), (.tup [.int 0, .int 6], .ref 20), (.tup [.int 0, .int 7], .ref 23), (.tup [.int 1, .int 0], .ref 26), (.tup [.int 1, .int 1], .ref 29), (.tup [.int 1, .int 2], .ref 32), (.tup [.int 1, .int 3], .ref 35), (.tup [.int 1, .int 4], .ref 38), (.tup [.int 1, .int 5], .ref 41), (.tup [.int 1, .int 6], .ref 44), (.tup [.int 1, .int 7], .ref 47)]
def ob_148 : LO := .dct 2 [(.tup [.int 0, .int 1], .ref 45), (.tup [.int 1, .int 0], .ref 46)]
def ob_149 : LO := .dct 2 [(.tup [.int 0, .int 1], .ref 48), (.tup [.int 1, .int 0], .ref 49)]
def ob_150 : LO := .dct 2 [(.tup [.int 0, .int 6], .tup [.int 6, .tup [.int 1, .int 0]]), (.tup [.int 1, .int 6], .tup [.int 6, .tup [.int 0, .int 1]])]
def ob_151 : LO := .dct 7 [(.tup [.int 0, .int 0], .tup [.int 0, .tup [.int 1, .int 0]]), (.tup [.int 1, .int 0], .tup [.int 0, .tup [.int 0, .int 1]]), (.tup [.int 0, .int 1], .tup [.int 1, .tup [.int 1, .int 0]]), (.tup [.int 1, .int 1], .tup [.int 1, .tup [.int 0, .int 1]]), (.tup [.int 0, .int 2], .tup [.int 2, .tup [.int 1, .int 0]]), (.tup [.int 1, .int 2], .tup [.int 2, .tup [.int 0, .int 1]]), (.tup [.int 0, .int 3], .tup [.int 3, .tup [.int 1, .int 0]]), (.tup [.int 1, .int 3], .tup [.int 3, .tup [.int 0, .int 1]]), (.tup [.int 0, .int 4], .tup [.int 4, .tup [.int 1, .int 0]]), (.tup [.int 1, .int 4], .tup [.int 4, .tup [.int 0, .int 1]]), (.tup [.int 0, .int 5], .tup [.int 5, .tup [.int 1, .int 0]]), (.tup [.int 1, .int 5], .tup [.int 5, .tup [.int 0, .int 1]]), (.tup [.int 0, .int 6], .tup [.int 6, .tup [.int 1, .int 0]]), (.tup [.int 1, .int 6], .tup [.int 6, .tup [.int 0, .int 1]])]
def ob_152 : LO := .dct 2 [(.tup [.int 0, .int 7], .tup [.int 7, .tup [.int 0, .int 1]]), (.tup [.int 1, .int 7], .tup [.int 7, .tup [.int 0, .int 1]])]
def ob_153 : LO := .dct 8 [(.tup [.int 0, .int 0], .tup [.int 0, .tup [.int 1, .int 0]]), (.tup [.int 1, .int 0], .tup [.int 0, .tup [.int 0, .int 1]]), (.tup [.int 0, .int 1], .tup [.int 1, .tup [.int 1, .int 0]]), (.tup [.int 1, .int 1], .tup [.int 1, .tup [.int 0, .int 1]]), (.tup [.int 0, .int 2], .tup [.int 2, .tup [.int 1, .int 0]]), (.tup [.int 1, .int 2], .tup [.int 2, .tup [.int 0, .int 1]]), (.tup [.int 0, .int 3], .tup [.int 3, .tup [.int 1, .int 0]]), (.tup [.int 1, .int 3], .tup [.int 3, .tup [.int 0, .int 1]]), (.tup [.int 0, .int 4], .tup [.int 4, .tup [.int 1, .int 0]]), (.tup [.int 1, .int 4], .tup [.int 4, .tup [.int 0, .int 1]]), (.tup [.int 0, .int 5], .tup [.int 5, .tup [.int 1, .int 0]]), (.tup [.int 1, .int 5], .tup [.int 5, .tup [.int 0, .int 1]]), (.tup [.int 0, .int 6], .tup [.int 6, .tup [.int 1, .int 0]]), (.tup [.int 1, .int 6], .tup [.int 6, .tup [.int 0, .int 1]]), (.tup [.int 0, .int 7], .tup [.int 7, .tup [.int 0, .int 1]]), (.tup [.int 1, .int 7], .tup [.int 7, .tup [.int 0, .int 1]])]
def ob_154 : LO := .dct 18 [(.tup [.int 0, .int 0], .ref 2), (.tup [.int 0, .int 1], .ref 5), (.tup [.int 0, .int 2], .ref 8), (.tup [.int 0, .int 3], .ref 11), (.tup [.int 0, .int 4], .ref 14), (.tup [.int 0, .int 5], .ref 17), (.tup [.int 0, .int 6], .ref 20), (.tup [.int 0, .int 7], .ref 23), (.tup [.int 0, .int 8], .ref 26), (.tup [.int 1, .int 0], .ref 29), (.tup [.int 1, .int 1], .ref 32), (.tup [.int 1, .int 2], .ref 35), (.tup [.int 1, .int 3], .ref 38), (.tup [.int 1, .int 4], .ref 41), (.tup [.int 1, .int 5], .ref 44), (.tup [.int 1, .int 6], .ref 47), (.tup [.int 1, .int 7], .ref 50), (.tup [.int 1, .int 8], .ref 53)]
def ob_155 : LO := .dct 2 [(.tup [.int 0, .int 1], .ref 51), (.tup [.int 1, .int 0], .ref 52)]
def ob_156 : LO := .dct 2 [(.tup [.int 0, .int 1], .ref 54), (.tup [.int 1, .int 0], .ref 55)]
def ob_157 : LO := .dct 2 [(.tup [.int 0, .int 7], .tup [.int 7, .tup [.int 1, .int 0]]), (.tup [.int 1, .int 7], .tup [.int 7, .tup [.int 0, .int 1]])]
def ob_158 : LO := .dct 8 [(.tup [.int 0, .int 0], .tup [.int 0, .tup [.int 1, .int 0]]), (.tup [.int 1, .int 0], .tup [.int 0, .tup [.int 0, .int 1]]), (.tup [.int 0, .int 1], .tup [.int 1, .tup [.int 1, .int 0]]), (.tup [.int 1, .int 1], .tup [.int 1, .tup [.int 0, .int 1]]), (.tup [.int 0, .int 2], .tup [.int 2, .tup [.int 1, .int 0]]), (.tup [.int 1, .int 2], .tup [.int 2, .tup [.int 0, .int 1]]), (.tup [.int 0, .int 3], .tup [.int 3, .tup [.int 1, .int 0]]), (.tup [.int 1, .int 3], .tup [.int 3, .tup [.int 0, .int 1]]), (.tup [.int 0, .int 4], .tup [.int 4, .tup [.int 1, .int 0]]), (.tup [.int 1, .int 4], .tup [.int 4, .tup [.int 0, .int 1]]), (.tup [.int 0, .int 5], .tup [.int 5, .tup [.int 1, .int 0]]), (.tup [.int 1, .int 5], .tup [.int 5, .tup [.int 0, .int 1]]), (.tup [.int 0, .int 6], .tup [.int 6, .tup [.int 1, .int 0]]), (.tup [.int 1, .int 6], .tup [.int 6, .tup [.int 0, .int 1]]), (.tup [.int 0, .int 7], .tup [.int 7, .tup [.int 1, .int 0]]), (.tup [.int 1, .int 7], .tup [.int 7, .tup [.int 0, .int 1]])]
def ob_159 : LO := .dct 2 [(.tup [.int 0, .int 8], .tup [.int 8, .tup [.int 0, .int 1]]), (.tup [.int 1, .int 8], .tup [.int 8, .tup [.int 0, .int 1]])]
def ob_160 : LO := .dct 9 [(.tup [.int 0, .int 0], .tup [.int 0, .tup [.int 1, .int 0]]), (.tup [.int 1, .int 0], .tup [.int 0, .tup [.int 0, .int 1]]), (.tup [.int 0, .int 1], .tup [.int 1, .tup [.int 1, .int 0]]), (.tup [.int 1, .int 1], .tup [.int 1, .tup [.int 0, .int 1]]), (.tup [.int 0, .int 2], .tup [.int 2, .tup [.int 1, .int 0]]), (.tup [.int 1, .int 2], .tup [.int 2, .tup [.int 0, .int 1]]), (.tup [.int 0, .int 3], .tup [.int 3, .tup [.int 1, .int 0]]), (.tup [.int 1, .int 3], .tup [.int 3, .tup [.int 0, .int 1]]), (.tup [.int 0, .int 4], .tup [.int 4, .tup [.int 1, .int 0]]), (.tup [.int 1, .int 4], .tup [.int 4, .tup [.int 0, .int 1]]), (.tup [.int 0, .int 5], .tup [.int 5, .tup [.int 1, .int 0]]), (.tup [.int 1, .int 5], .tup [.int 5, .tup [.int 0, .int 1]]), (.tup [.int 0, .int 6], .tup [.int 6, .tup [.int 1, .int 0]]), (.tup [.int 1, .int 6], .tup [.int 6, .tup [.int 0, .int 1]]), (.tup [.int 0, .int 7], .tup [.int 7, .tup [.int 1, .int 0]]), (.tup [.int 1, .int 7], .tup [.int 7, .tup [.int 0, .int 1]]), (.tup [.int 0, .int 8], .tup [.int 8, .tup [.int 0, .int 1]]), (.tup [.int 1, .int 8], .tup [.int 8, .tup [.int 0, .int 1]])]
def ob_161 : LO := .dct 4 [(.tup [.int 0, .int 0], .ref 2), (.tup [.int 0, .int 1], .ref 4), (.tup [.int 1, .int 0], .ref 6), (.tup [.int 1, .int 1], .ref 8)]
def ob_162 : LO := .dct 8 [(.tup [.int 0, .int 0], .ref 3), (.tup [.int 0, .int 1], .ref 6), (.tup [.int 0, .int 2], .ref 9), (.tup [.int 0, .int 3], .ref 12), (.tup [.int 1, .int 0], .ref 15), (.tup [.int 1, .int 1], .ref 18), (.tup [.int 1, .int 2], .ref 21), (.tup [.int 1, .int 3], .ref 24)]
def ob_163 : LO := .dct 2 [(.tup [.int 0, .int 1], .ref 4), (.tup [.int 1, .int 0], .ref 5)]
def ob_164 : LO := .dct 2 [(.tup [.int 0, .int 1], .ref 7), (.tup [.int 1, .int 0], .ref 8)]
def ob_165 : LO := .dct 2 [(.tup [.int 0, .int 1], .ref 10), (.tup [.int 1, .int 0], .ref 11)]
def ob_166 : LO := .dct 2 [(.tup [.int 0, .int 1], .ref 13), (.tup [.int 1, .int 0], .ref 14)]
def ob_167 : LO := .dct 2 [(.tup [.int 0, .int 1], .ref 16), (.tup [.int 1, .int 0], .ref 17)]
def ob_168 : LO := .dct 2 [(.tup [.int 0, .int 1], .ref 19), (.tup [.int 1, .int 0], .ref 20)]
def ob_169 : LO := .dct 2 [(.tup [.int 0, .int 1], .ref 22), (.tup [.int 1, .int 0], .ref 23)]
def ob_170 : LO := .dct 2 [(.tup [.int 0, .int 1], .ref 25), (.tup [.int 1, .int 0], .ref 26)]
def ob_171 : LO := .dct 4 [(.tup [.int 0, .int 0], .ref 3), (.tup [.int 0, .int 1], .ref 6), (.tup [.int 1, .int 0], .ref 9), (.tup [.int 1, .int 1], .ref 12)]
def ob_172 : LO := .dct 6 [(.tup [.int 0, .int 0], .ref 3), (.tup [.int 0, .int 1], .ref 6), (.tup [.int 0, .int 2], .ref 9), (.tup [.int 1, .int 0], .ref 12), (.tup [.int 1, .int 1], .ref 15), (.tup [.int 1, .int 2], .ref 18)]
def ob_173 : LO := .dct 10 [(.tup [.int 0, .int 0], .ref 3), (.tup [.int 0, .int 1], .ref 6), (.tup [.int 0, .int 2], .ref 9), (.tup [.int 0, .int 3], .ref 12), (.tup [.int 0, .int 4], .ref 15), (.tup [.int 1, .int 0], .ref 18), (.tup [.int 1, .int 1], .ref 21), (.tup [.int 1, .int 2], .ref 24), (.tup [.int 1, .int 3], .ref 27), (.tup [.int 1, .int 4], .ref 30)]
def ob_174 : LO := .dct 2 [(.tup [.int 0, .int 1], .ref 28), (.tup [.int 1, .int 0], .ref 29)]
def ob_175 : LO := .dct 2 [(.tup [.int 0, .int 1], .ref 31), (.tup [.int 1, .int 0], .ref 32)]
def ob_176 : LO := .dct 12 [(.tup [.int 0, .int 0], .ref 3), (.tup [.int 0, .int 1], .ref 6), (.tup [.int 0, .int 2], .ref 9), (.tup [.int 0, .int 3], .ref 12), (.tup [.int 0, .int 4], .ref 15), (.tup [.int 0, .int 5], .ref 18), (.tup [.int 1, .int 0], .ref 21), (.tup [.int 1, .int 1], .ref 24), (.tup [.int 1, .int 2], .ref 27), (.tup [.int 1, .int 3], .ref 30), (.tup [.int 1, .int 4], .ref 33), (.tup [.int 1, .int 5], .ref 36)]
def ob_177 : LO := .dct 2 [(.tup [.int 0, .int 1], .ref 34), (.tup [.int 1, .int 0], .ref 35)]
def ob_178 : LO := .dct 2 [(.tup [.int 0, .int 1], .ref 37), (.tup [.int 1, .int 0], .ref 38)]
def ob_179 : LO := .dct 14 [(.tup [.int 0, .int 0], .ref 3), (.tup [.int 0, .int 1], .ref 6), (.tup [.int 0, .int 2], .ref 9), (.tup [.int 0, .int 3], .ref 12), (.tup [.int 0, .int 4], .ref 15), (.tup [.int 0, .int 5], .ref 18), (.tup [.int 0, .int 6], .ref 21), (.tup [.int 1, .int 0], .ref 24), (.tup [.int 1, .int 1], .ref 27), (.tup [.int 1, .int 2], .ref 30), (.tup [.int 1, .int 3], .ref 33), (.tup [.int 1, .int 4], .ref 36), (.tup [.int 1, .int 5], .ref 39), (.tup [.int 1, .int 6], .ref 42)]
def ob_180 : LO := .dct 2 [(.tup [.int 0, .int 1], .ref 40), (.tup [.int 1, .int 0], .ref 41)]
def ob_181 : LO := .dct 2 [(.tup [.int 0, .int 1], .ref 43), (.tup [.int 1, .int 0], .ref 44)]
def ob_182 : LO := .dct 16 [(.tup [.int 0, .int 0], .ref 3), (.tup [.int 0, .int 1], .ref 6), (.tup [.int 0, .int 2], .ref 9), (.tup [.int 0, .int 3], .ref 12), (.tup [.int 0, .int 4], .ref 15), (.tup [.int 0, .int 5], .ref 18), (.tup [.int 0, .int 6], .ref 21), (.tup [.int 0, .int 7], .ref 24), (.tup [.int 1, .int 0], .ref 27), (.tup [.int 1, .int 1], .ref 30), (.tup [.int 1, .int 2], .ref 33), (.tup [.int 1, .int 3], .ref 36), (.tup [.int 1, .int 4], .ref 39), (.tup [.int 1, .int 5], .ref 42), (.tup [.int 1, .int 6], .ref 45), (.tup [.int 1, .int 7], .ref 48)]
def ob_183 : LO := .dct 2 [(.tup [.int 0, .int 1], .ref 46), (.tup [.int 1, .int 0], .ref 47)]
def ob_184 : LO := .dct 2 [(.tup [.int 0, .int 1], .ref 49), (.tup [.int 1, .int 0], .ref 50)]
def ob_185 : LO := .dct 18 [(.tup [.int 0, .int 0], .ref 3), (.tup [.int 0, .int 1], .ref 6), (.tup [.int 0, .int 2], .ref 9), (.tup [.int 0, .int 3], .ref 12), (.tup [.int 0, .int 4], .ref 15), (.tup [.int 0, .int 5], .ref 18), (.tup [.int 0, .int 6], .ref 21), (.tup [.int 0, .int 7], .ref 24), (.tup [.int 0, .int 8], .ref 27), (.tup [.int 1, .int 0], .ref 30), (.tup [.int 1, .int 1], .ref 33), (.tup [.int 1, .int 2], .ref 36), (.tup [.int 1, .int 3], .ref 39), (.tup [.int 1, .int 4], .ref 42), (.tup [.int 1, .int 5], .ref 45), (.tup [.int 1, .int 6], .ref 48), (.tup [.int 1, .int 7], .ref 51), (.tup [.int 1, .int 8], .ref 54)]
def ob_186 : LO := .dct 2 [(.tup [.int 0, .int 1], .ref 52), (.tup [.int 1, .int 0], .ref 53)]
def ob_187 : LO := .dct 2 [(.tup [.int 0, .int 1], .ref 55), (.tup [.int 1, .int 0], .ref 56)]
def ob_188 : LO := .dct 4 [(.tup [.int 0, .int 0], .ref 3), (.tup [.int 0, .int 1], .ref 5), (.tup [.int 1, .int 0], .ref 7), (.tup [.int 1, .int 1], .ref 9)]
def ob_189 : LO := .dct 4 [(.tup [.int 0, .int 0], .tup [.int 0, .tup [.int 1, .int 0]]), (.tup [.int 0, .int 1], .tup [.int 0, .tup [.int 1, .int 0]]), (.tup [.int 1, .int 0], .tup [.int 0, .tup [.int 0, .int 1]]), (.tup [.int 1, .int 1], .tup [.int 1, .tup [.int 0, .int 1]])]
def ob_190 : LO := .dct 6 [(.tup [.int 0, .int 0], .tup [.int 0, .tup [.int 1, .int 0]]), (.tup [.int 1, .int 0], .tup [.int 0, .tup [.int 0, .int 1]]), (.tup [.int 0, .int 1], .tup [.int 1, .tup [.int 1, .int 0]]), (.tup [.int 1, .int 1], .tup [.int 1, .tup [.int 0, .int 1]]), (.tup [.int 0, .int 2], .tup [.int 2, .tup [.int 0, .int 1]]), (.tup [.int 1, .int 2], .tup [.int 2, .tup [.int 0, .int 1]])]
def ob_191 : LO := .dct 8 [(.tup [.int 0, .int 0], .tup [.int 0, .tup [.int 1, .int 0]]), (.tup [.int 1, .int 0], .tup [.int 0, .tup [.int 0, .int 1]]), (.tup [.int 0, .int 1], .tup [.int 1, .tup [.int 1, .int 0]]), (.tup [.int 1, .int 1], .tup [.int 1, .tup [.int 0, .int 1]]), (.tup [.int 0, .int 2], .tup [.int 2, .tup [.int 1, .int 0]]), (.tup [.int 1, .int 2], .tup [.int 2, .tup [.int 0, .int 1]]), (.tup [.int 0, .int 3], .tup [.int 3, .tup [.int 0, .int 1]]), (.tup [.int 1, .int 3], .tup [.int 3, .tup [.int 0, .int 1]])]
def ob_192 : LO := .dct 10 [(.tup [.int 0, .int 0], .tup [.int 0, .tup [.int 1, .int 0]]), (.tup [.int 1, .int 0], .tup [.int 0, .tup [.int 0, .int 1]]), (.tup [.int 0, .int 1], .tup [.int 1, .tup [.int 1, .int 0]]), (.tup [.int 1, .int 1], .tup [.int 1, .tup [.int 0, .int 1]]), (.tup [.int 0, .int 2], .tup [.int 2, .tup [.int 1, .int 0]]), (.tup [.int 1, .int 2], .tup [.int 2, .tup [.int 0, .int 1]]), (.tup [.int 0, .int 3], .tup [.int 3, .tup [.int 1, .int 0]]), (.tup [.int 1, .int 3], .tup [.int 3, .tup [.int 0, .int 1]]), (.tup [.int 0, .int 4], .tup [.int 4, .tup [.int 0, .int 1]]), (.tup [.int 1, .int 4], .tup [.int 4, .tup [.int 0, .int 1]])]
def ob_193 : LO := .dct 12 [(.tup [.int 0, .int 0], .tup [.int 0, .tup [.int 1, .int 0]]), (.tup [.int 1, .int 0], .tup [.int 0, .tup [.int 0, .int 1]]), (.tup [.int 0, .int 1], .tup [.int 1, .tup [.int 1, .int 0]]), (.tup [.int 1, .int 1], .tup [.int 1, .tup [.int 0, .int 1]]), (.tup [.int 0, .int 2], .tup [.int 2, .tup [.int 1, .int 0]]), (.tup [.int 1, .int 2], .tup [.int 2, .tup [.int 0, .int 1]]), (.tup [.int 0, .int 3], .tup [.int 3, .tup [.int 1, .int 0]]), (.tup [.int 1, .int 3], .tup [.int 3, .tup [.int 0, .int 1]]), (.tup [.int 0, .int 4], .tup [.int 4, .tup [.int 1, .int 0]]), (.tup [.int 1, .int 4], .tup [.int 4, .tup [.int 0, .int 1]]), (.tup [.int 0, .int 5], .tup [.int 5, .tup [.int 0, .int 1]]), (.tup [.int 1, .int 5], .tup [.int 5, .tup [.int 0, .int 1]])]
def ob_194 : LO := .dct 14 [(.tup [.int 0, .int 0], .tup [.int 0, .tup [.int 1, .int 0]]), (.tup [.int 1, .int 0], .tup [.int 0, .tup [.int 0, .int 1]]), (.tup [.int 0, .int 1], .tup [.int 1, .tup [.int 1, .int 0]]), (.tup [.int 1, .int 1], .tup [.int 1, .tup [.int 0, .int 1]]), (.tup [.int 0, .int 2], .tup [.int 2, .tup [.int 1, .int 0]]), (.tup [.int 1, .int 2], .tup [.int 2, .tup [.int 0, .int 1]]), (.tup [.int 0, .int 3], .tup [.int 3, .tup [.int 1, .int 0]]), (.tup [.int 1, .int 3], .tup [.int 3, .tup [.int 0, .int 1]]), (.tup [.int 0, .int 4], .tup [.int 4, .tup [.int 1, .int 0]]), (.tup [.int 1, .int 4], .tup [.int 4, .tup [.int 0, .int 1]]), (.tup [.int 0, .int 5], .tup [.int 5, .tup [.int 1, .int 0]]), (.tup [.int 1, .int 5], .tup [.int 5, .tup [.int 0, .int 1]]), (.tup [.int 0, .int 6], .tup [.int 6, .tup [.int 0, .int 1]]), (.tup [.int 1, .int 6], .tup [.int 6, .tup [.int 0, .int 1]])]
def ob_195 : LO := .dct 16 [(.tup [.int 0, .int 0], .tup [.int 0, .tup [.int 1, .int 0]]), (.tup [.int 1, .int 0], .tup [.int 0, .tup [.int 0, .int 1]]), (.tup [.int 0, .int 1], .tup [.int 1, .tup [.int 1, .int 0]]), (.tup [.int 1, .int 1], .tup [.int 1, .tup [.int 0, .int 1]]), (.tup [.int 0, .int 2], .tup [.int 2, .tup [.int 1, .int 0]]), (.tup [.int 1, .int 2], .tup [.int 2, .tup [.int 0, .int 1]]), (.tup [.int 0, .int 3], .tup [.int 3, .tup [.int 1, .int 0]]), (.tup [.int 1, .int 3], .tup [.int 3, .tup [.int 0, .int 1]]), (.tup [.int 0, .int 4], .tup [.int 4, .tup [.int 1, .int 0]]), (.tup [.int 1, .int 4], .tup [.int 4, .tup [.int 0, .int 1]]), (.tup [.int 0, .int 5], .tup [.int 5, .tup [.int 1, .int 0]]), (.tup [.int 1, .int 5], .tup [.int 5, .tup [.int 0, .int 1]]), (.tup [.int 0, .int 6], .tup [.int 6, .tup [.int 1, .int 0]]), (.tup [.int 1, .int 6], .tup [.int 6, .tup [.int 0, .int 1]]), (.tup [.int 0, .int 7], .tup [.int 7, .tup [.int 0, .int 1]]), (.tup [.int 1, .int 7], .tup [.int 7, .tup [.int 0, .int 1]])]
def ob_196 : LO := .dct 18 [(.tup [.int 0, .int 0], .tup [.int 0, .tup [.int 1, .int 0]]), (.tup [.int 1, .int 0], .tup [.int 0, .tup [.int 0, .int 1]]), (.tup [.int 0, .int 1], .tup [.int 1, .tup [.int 1, .int 0]]), (.tup [.int 1, .int 1], .tup [.int 1, .tup [.int 0, .int 1]]), (.tup [.int 0, .int 2], .tup [.int 2, .tup [.int 1, .int 0]]), (.tup [.int 1, .int 2], .tup [.int 2, .tup [.int 0, .int 1]]), (.tup [.int 0, .int 3], .tup [.int 3, .tup [.int 1, .int 0]]), (.tup [.int 1, .int 3], .tup [.int 3, .tup [.int 0, .int 1]]), (.tup [.int 0, .int 4], .tup [.int 4, .tup [.int 1, .int 0]]), (.tup [.int 1, .int 4], .tup [.int 4, .tup [.int 0, .int 1]]), (.tup [.int 0, .int 5], .tup [.int 5, .tup [.int 1, .int 0]]), (.tup [.int 1, .int 5], .tup [.int 5, .tup [.int 0, .int 1]]), (.tup [.int 0, .int 6], .tup [.int 6, .tup [.int 1, .int 0]]), (.tup [.int 1, .int 6], .tup [.int 6, .tup [.int 0, .int 1]]), (.tup [.int 0, .int 7], .tup [.int 7, .tup [.int 1, .int 0]]), (.tup [.int 1, .int 7], .tup [.int 7, .tup [.int 0, .int 1]]), (.tup [.int 0, .int 8], .tup [.int 8, .tup [.int 0, .int 1]]), (.tup [.int 1, .int 8], .tup [.int 8, .tup [.int 0, .int 1]])]
def ob_197 : LO := .dct 4 [(.tup [.tup [.int 0, .int 2], .tup [.int 0, .int 1]], .tup [.tup [.str s_1, .int 0]]), (.tup [.tup [.int 0, .int 2], .tup [.int 1, .int 0]], .tup [.tup [.str s_1, .int 0], .tup [.str s_1, .int 0], .tup [.str s_0], .tup [.str s_0]]), (.tup [.tup [.int 1, .int 1], .tup [.int 0, .int 1]], .tup [.tup [.str s_1, .int 0], .tup [.str s_0], .tup [.str s_0], .tup [.str s_1, .int 0]]), (.tup [.tup [.int 1, .int 1], .tup [.int 1, .int 0]], .tup [.tup [.str s_1, .int 0], .tup [.str s_0], .tup [.str s_0], .tup [.str s_1, .int 0]])]
def ob_198 : LO := .dct 4 [(.tup [.tup [.int 1, .int 2], .tup [.int 0, .int 1]], .tup [.tup [.str s_1, .int 0], .tup [.str s_0], .tup [.str s_1, .int 0]]), (.tup [.tup [.int 1, .int 2], .tup [.int 1, .int 0]], .tup [.tup [.str s_1, .int 0], .tup [.str s_0], .tup [.str s_1, .int 0]]), (.tup [.tup [.int 1, .int 1], .tup [.int 0, .int 1]], .tup [.tup [.str s_1, .int 0], .tup [.str s_0], .tup [.str s_0], .tup [.str s_1, .int 0]]), (.tup [.tup [.int 1, .int 1], .tup [.int 1, .int 0]], .tup [.tup [.str s_1, .int 0], .tup [.str s_0], .tup [.str s_0], .tup [.str s_1, .int 0]])]
def ob_199 : LO := .dct 2 [(.tup [.tup [.int 1, .int 1], .tup [.int 0, .int 1]], .tup [.tup [.str s_1, .int 0], .tup [.str s_0], .tup [.str s_0], .tup [.str s_1, .int 0]]), (.tup [.tup [.int 1, .int 1], .tup [.int 1, .int 0]], .tup [.tup [.str s_1, .int 0], .tup [.str s_0], .tup [.str s_0], .tup [.str s_1, .int 0]])]
def ob_200 : LO := .dct 4 [(.tup [.tup [.int 0, .int 0], .tup [.int 0, .int 1]], .tup [.tup [.str s_0], .tup [.str s_0], .tup [.str s_0], .tup [.str s_1, .int 0]]), (.tup [.tup [.int 0, .int 0], .tup [.int 1, .int 0]], .tup [.tup [.str s_0], .tup [.str s_0], .tup [.str s_1, .int 0], .tup [.str s_1, .int 0]]), (.tup [.tup [.int 1, .int 2], .tup [.int 0, .int 1]], .tup [.tup [.str s_1, .int 0], .tup [.str s_0], .tup [.str s_0], .tup [.str s_1, .int 0]]), (.tup [.tup [.int 1, .int 2], .tup [.int 1, .int 0]], .tup [.tup [.str s_1, .int 0], .tup [.str s_0], .tup [.str s_0], .tup [.str s_1, .int 0]])]
def ob_201 : LO := .dct 2 [(.tup [.tup [.int 0, .int 1], .tup [.int 0, .int 1]], .tup [.tup [.str s_1, .int 0], .tup [.str s_0]]), (.tup [.tup [.int 1, .int 1], .tup [.int 0, .int 1]], .tup [.tup [.str s_1, .int 0], .tup [.str s_0], .tup [.str s_1, .int 0], .tup [.str s_0]])]
def ob_202 : LO := .lst [.tup [.int 0, .int 3], .tup [.int 1, .int 2], .tup [.int 1, .int 1]]
def ob_203 : LO := .dct 6 [(.tup [.tup [.int 0, .int 3], .tup [.int 0, .int 1]], .tup [.tup [.str s_1, .int 0]]), (.tup [.tup [.int 0, .int 3], .tup [.int 1, .int 0]], .tup [.tup [.str s_1, .int 0], .tup [.str s_1, .int 0], .tup [.str s_0], .tup [.str s_1, .int 0]]), (.tup [.tup [.int 1, .int 2], .tup [.int 0, .int 1]], .tup [.tup [.str s_1, .int 0], .tup [.str s_0], .tup [.str s_0], .tup [.str s_1, .int 0]]), (.tup [.tup [.int 1, .int 2], .tup [.int 1, .int 0]], .tup [.tup [.str s_1, .int 0], .tup [.str s_0], .tup [.str s_0], .tup [.str s_1, .int 0]]), (.tup [.tup [.int 1, .int 1], .tup [.int 0, .int 1]], .tup [.tup [.str s_1, .int 0], .tup [.str s_0], .tup [.str s_0], .tup [.str s_1, .int 0]]), (.tup [.tup [.int 1, .int 1], .tup [.int 1, .int 0]], .tup [.tup [.str s_1, .int 0], .tup [.str s_0], .tup [.str s_0], .tup [.str s_1, .int 0]])]
def tc_courses_of_0 : List Me := [⟨[.ref 0, .tup [.int 0, .int 2], .tup [.int 0, .int 2]], [ob_0], .ref 1, [ob_0, ob_1]⟩,
  ⟨[.ref 0, .tup [.int 0, .int 1], .tup [.int 2, .int 0]], [ob_0], .ref 1, [ob_0, .dct 0 []]⟩,
  ⟨[.ref 0, .tup [.int 0, .int 0], .tup [.int 0, .int 1]], [ob_2], .ref 1, [ob_2, ob_3]⟩,
  ⟨[.ref 0, .tup [.int 0, .int 0], .tup [.int 1, .int 0]], [ob_2], .ref 1, [ob_2, ob_4]⟩,
  ⟨[.ref 0, .tup [.int 1, .int 2], .tup [.int 1, .int 0]], [ob_2], .ref 1, [ob_2, ob_5]⟩,
  ⟨[.ref 0, .tup [.int 0, .int 1], .tup [.int 0, .int 1]], [ob_2], .ref 1, [ob_2, ob_6]⟩,
  ⟨[.ref 0, .tup [.int 0, .int 1], .tup [.int 1, .int 0]], [ob_2], .ref 1, [ob_2, ob_7]⟩,
  ⟨[.ref 0, .tup [.int 0, .int 2], .tup [.int 0, .int 1]], [ob_2], .ref 1, [ob_2, ob_8]⟩,
  ⟨[.ref 0, .tup [.int 0, .int 2], .tup [.int 1, .int 0]], [ob_2], .ref 1, [ob_2, ob_9]⟩,
  ⟨[.ref 0, .tup [.int 0, .int 3], .tup [.int 0, .int 1]], [ob_2], .ref 1, [ob_2, ob_10]⟩,
  ⟨[.ref 0, .tup [.int 0, .int 3], .tup [.int 1, .int 0]], [ob_2], .ref 1, [ob_2, ob_11]⟩,
  ⟨[.ref 0, .tup [.int 1, .int 0], .tup [.int 0, .int 1]], [ob_2], .ref 1, [ob_2, .dct 0 []]⟩,
  ⟨[.ref 0, .tup [.int 1, .int 0], .tup [.int 1, .int 0]], [ob_2], .ref 1, [ob_2, .dct 0 []]⟩,
  ⟨[.ref 0, .tup [.int 1, .int 1], .tup [.int 0, .int 1]], [ob_2], .ref 1, [ob_2, ob_12]⟩,
  ⟨[.ref 0, .tup [.int 1, .int 1], .tup [.int 1, .int 0]], [ob_2], .ref 1, [ob_2, ob_13]⟩,
  ⟨[.ref 0, .tup [.int 1, .int 2], .tup [.int 0, .int 1]], [ob_2], .ref 1, [ob_2, ob_14]⟩,
  ⟨[.ref 0, .tup [.int 1, .int 3], .tup [.int 0, .int 1]], [ob_2], .ref 1, [ob_2, ob_15]⟩,
  ⟨[.ref 0, .tup [.int 1, .int 3], .tup [.int 1, .int 0]], [ob_2], .ref 1, [ob_2, ob_16]⟩,
  ⟨[.ref 0, .tup [.int 0, .int 0], .tup [.int 0, .int 1]], [ob_17], .ref 1, [ob_17, ob_18]⟩,
  ⟨[.ref 0, .tup [.int 0, .int 0], .tup [.int 1, .int 0]], [ob_17], .ref 1, [ob_17, .dct 0 []]⟩,
  ⟨[.ref 0, .tup [.int 0, .int 1], .tup [.int 0, .int 1]], [ob_17], .ref 1, [ob_17, ob_19]⟩,
  ⟨[.ref 0, .tup [.int 0, .int 1], .tup [.int 1, .int 0]], [ob_17], .ref 1, [ob_17, ob_20]⟩,
  ⟨[.ref 0, .tup [.int 0, .int 2], .tup [.int 0, .int 1]], [ob_17], .ref 1, [ob_17, ob_21]⟩,
  ⟨[.ref 0, .tup [.int 0, .int 2], .tup [.int 1, .int 0]], [ob_17], .ref 1, [ob_17, ob_22]⟩]
def tc_courses_of_1 : List Me := [⟨[.ref 0, .tup [.int 0, .int 3], .tup [.int 0, .int 1]], [ob_17], .ref 1, [ob_17, ob_23]⟩,
  ⟨[.ref 0, .tup [.int 0, .int 3], .tup [.int 1, .int 0]], [ob_17], .ref 1, [ob_17, ob_24]⟩,
  ⟨[.ref 0, .tup [.int 1, .int 0], .tup [.int 0, .int 1]], [ob_17], .ref 1, [ob_17, .dct 0 []]⟩,
  ⟨[.ref 0, .tup [.int 1, .int 0], .tup [.int 1, .int 0]], [ob_17], .ref 1, [ob_17, .dct 0 []]⟩,
  ⟨[.ref 0, .tup [.int 1, .int 1], .tup [.int 0, .int 1]], [ob_17], .ref 1, [ob_17, ob_25]⟩,
  ⟨[.ref 0, .tup [.int 1, .int 1], .tup [.int 1, .int 0]], [ob_17], .ref 1, [ob_17, ob_26]⟩,
  ⟨[.ref 0, .tup [.int 1, .int 2], .tup [.int 0, .int 1]], [ob_17], .ref 1, [ob_17, ob_27]⟩,
  ⟨[.ref 0, .tup [.int 1, .int 2], .tup [.int 1, .int 0]], [ob_17], .ref 1, [ob_17, ob_28]⟩,
  ⟨[.ref 0, .tup [.int 1, .int 3], .tup [.int 0, .int 1]], [ob_17], .ref 1, [ob_17, ob_29]⟩,
  ⟨[.ref 0, .tup [.int 1, .int 3], .tup [.int 1, .int 0]], [ob_17], .ref 1, [ob_17, ob_30]⟩,
  ⟨[.ref 0, .tup [.int 0, .int 0], .tup [.int 0, .int 1]], [ob_31], .ref 1, [ob_31, ob_32]⟩,
  ⟨[.ref 0, .tup [.int 0, .int 0], .tup [.int 1, .int 0]], [ob_31], .ref 1, [ob_31, .dct 0 []]⟩,
  ⟨[.ref 0, .tup [.int 0, .int 1], .tup [.int 0, .int 1]], [ob_31], .ref 1, [ob_31, ob_33]⟩,
  ⟨[.ref 0, .tup [.int 0, .int 1], .tup [.int 1, .int 0]], [ob_31], .ref 1, [ob_31, .dct 0 []]⟩,
  ⟨[.ref 0, .tup [.int 1, .int 0], .tup [.int 0, .int 1]], [ob_31], .ref 1, [ob_31, .dct 0 []]⟩,
  ⟨[.ref 0, .tup [.int 1, .int 0], .tup [.int 1, .int 0]], [ob_31], .ref 1, [ob_31, .dct 0 []]⟩,
  ⟨[.ref 0, .tup [.int 1, .int 1], .tup [.int 0, .int 1]], [ob_31], .ref 1, [ob_31, ob_25]⟩,
  ⟨[.ref 0, .tup [.int 1, .int 1], .tup [.int 1, .int 0]], [ob_31], .ref 1, [ob_31, ob_34]⟩,
  ⟨[.ref 0, .tup [.int 0, .int 0], .tup [.int 0, .int 1]], [ob_35], .ref 1, [ob_35, ob_18]⟩,
  ⟨[.ref 0, .tup [.int 0, .int 0], .tup [.int 1, .int 0]], [ob_35], .ref 1, [ob_35, .dct 0 []]⟩,
  ⟨[.ref 0, .tup [.int 0, .int 1], .tup [.int 0, .int 1]], [ob_35], .ref 1, [ob_35, ob_36]⟩,
  ⟨[.ref 0, .tup [.int 0, .int 1], .tup [.int 1, .int 0]], [ob_35], .ref 1, [ob_35, ob_20]⟩,
  ⟨[.ref 0, .tup [.int 0, .int 2], .tup [.int 0, .int 1]], [ob_35], .ref 1, [ob_35, ob_37]⟩,
  ⟨[.ref 0, .tup [.int 0, .int 2], .tup [.int 1, .int 0]], [ob_35], .ref 1, [ob_35, ob_38]⟩]
def tc_courses_of_2 : List Me := [⟨[.ref 0, .tup [.int 1, .int 0], .tup [.int 0, .int 1]], [ob_35], .ref 1, [ob_35, .dct 0 []]⟩,
  ⟨[.ref 0, .tup [.int 1, .int 0], .tup [.int 1, .int 0]], [ob_35], .ref 1, [ob_35, .dct 0 []]⟩,
  ⟨[.ref 0, .tup [.int 1, .int 1], .tup [.int 0, .int 1]], [ob_35], .ref 1, [ob_35, ob_25]⟩,
  ⟨[.ref 0, .tup [.int 1, .int 1], .tup [.int 1, .int 0]], [ob_35], .ref 1, [ob_35, ob_26]⟩,
  ⟨[.ref 0, .tup [.int 1, .int 2], .tup [.int 0, .int 1]], [ob_35], .ref 1, [ob_35, ob_27]⟩,
  ⟨[.ref 0, .tup [.int 1, .int 2], .tup [.int 1, .int 0]], [ob_35], .ref 1, [ob_35, ob_39]⟩,
  ⟨[.ref 0, .tup [.int 0, .int 0], .tup [.int 0, .int 1]], [ob_40], .ref 1, [ob_40, ob_18]⟩,
  ⟨[.ref 0, .tup [.int 0, .int 0], .tup [.int 1, .int 0]], [ob_40], .ref 1, [ob_40, .dct 0 []]⟩,
  ⟨[.ref 0, .tup [.int 0, .int 1], .tup [.int 0, .int 1]], [ob_40], .ref 1, [ob_40, ob_19]⟩,
  ⟨[.ref 0, .tup [.int 0, .int 1], .tup [.int 1, .int 0]], [ob_40], .ref 1, [ob_40, ob_20]⟩,
  ⟨[.ref 0, .tup [.int 0, .int 2], .tup [.int 0, .int 1]], [ob_40], .ref 1, [ob_40, ob_41]⟩,
  ⟨[.ref 0, .tup [.int 0, .int 2], .tup [.int 1, .int 0]], [ob_40], .ref 1, [ob_40, ob_22]⟩,
  ⟨[.ref 0, .tup [.int 0, .int 3], .tup [.int 0, .int 1]], [ob_40], .ref 1, [ob_40, ob_42]⟩,
  ⟨[.ref 0, .tup [.int 0, .int 3], .tup [.int 1, .int 0]], [ob_40], .ref 1, [ob_40, ob_43]⟩,
  ⟨[.ref 0, .tup [.int 0, .int 4], .tup [.int 0, .int 1]], [ob_40], .ref 1, [ob_40, ob_44]⟩,
  ⟨[.ref 0, .tup [.int 0, .int 4], .tup [.int 1, .int 0]], [ob_40], .ref 1, [ob_40, ob_45]⟩,
  ⟨[.ref 0, .tup [.int 1, .int 0], .tup [.int 0, .int 1]], [ob_40], .ref 1, [ob_40, .dct 0 []]⟩,
  ⟨[.ref 0, .tup [.int 1, .int 0], .tup [.int 1, .int 0]], [ob_40], .ref 1, [ob_40, .dct 0 []]⟩,
  ⟨[.ref 0, .tup [.int 1, .int 1], .tup [.int 0, .int 1]], [ob_40], .ref 1, [ob_40, ob_25]⟩,
  ⟨[.ref 0, .tup [.int 1, .int 1], .tup [.int 1, .int 0]], [ob_40], .ref 1, [ob_40, ob_26]⟩,
  ⟨[.ref 0, .tup [.int 1, .int 2], .tup [.int 0, .int 1]], [ob_40], .ref 1, [ob_40, ob_27]⟩,
  ⟨[.ref 0, .tup [.int 1, .int 2], .tup [.int 1, .int 0]], [ob_40], .ref 1, [ob_40, ob_28]⟩,
  ⟨[.ref 0, .tup [.int 1, .int 3], .tup [.int 0, .int 1]], [ob_40], .ref 1, [ob_40, ob_29]⟩,
  ⟨[.ref 0, .tup [.int 1, .int 3], .tup [.int 1, .int 0]], [ob_40], .ref 1, [ob_40, ob_46]⟩]
def tc_courses_of_3 : List Me := [⟨[.ref 0, .tup [.int 1, .int 4], .tup [.int 0, .int 1]], [ob_40], .ref 1, [ob_40, ob_47]⟩,
  ⟨[.ref 0, .tup [.int 1, .int 4], .tup [.int 1, .int 0]], [ob_40], .ref 1, [ob_40, ob_48]⟩,
  ⟨[.ref 0, .tup [.int 0, .int 0], .tup [.int 0, .int 1]], [ob_49], .ref 1, [ob_49, ob_18]⟩,
  ⟨[.ref 0, .tup [.int 0, .int 0], .tup [.int 1, .int 0]], [ob_49], .ref 1, [ob_49, .dct 0 []]⟩,
  ⟨[.ref 0, .tup [.int 0, .int 1], .tup [.int 0, .int 1]], [ob_49], .ref 1, [ob_49, ob_19]⟩,
  ⟨[.ref 0, .tup [.int 0, .int 1], .tup [.int 1, .int 0]], [ob_49], .ref 1, [ob_49, ob_20]⟩,
  ⟨[.ref 0, .tup [.int 0, .int 2], .tup [.int 0, .int 1]], [ob_49], .ref 1, [ob_49, ob_41]⟩,
  ⟨[.ref 0, .tup [.int 0, .int 2], .tup [.int 1, .int 0]], [ob_49], .ref 1, [ob_49, ob_22]⟩,
  ⟨[.ref 0, .tup [.int 0, .int 3], .tup [.int 0, .int 1]], [ob_49], .ref 1, [ob_49, ob_50]⟩,
  ⟨[.ref 0, .tup [.int 0, .int 3], .tup [.int 1, .int 0]], [ob_49], .ref 1, [ob_49, ob_43]⟩,
  ⟨[.ref 0, .tup [.int 0, .int 4], .tup [.int 0, .int 1]], [ob_49], .ref 1, [ob_49, ob_51]⟩,
  ⟨[.ref 0, .tup [.int 0, .int 4], .tup [.int 1, .int 0]], [ob_49], .ref 1, [ob_49, ob_52]⟩,
  ⟨[.ref 0, .tup [.int 0, .int 5], .tup [.int 0, .int 1]], [ob_49], .ref 1, [ob_49, ob_53]⟩,
  ⟨[.ref 0, .tup [.int 0, .int 5], .tup [.int 1, .int 0]], [ob_49], .ref 1, [ob_49, ob_54]⟩,
  ⟨[.ref 0, .tup [.int 1, .int 0], .tup [.int 0, .int 1]], [ob_49], .ref 1, [ob_49, .dct 0 []]⟩,
  ⟨[.ref 0, .tup [.int 1, .int 0], .tup [.int 1, .int 0]], [ob_49], .ref 1, [ob_49, .dct 0 []]⟩,
  ⟨[.ref 0, .tup [.int 1, .int 1], .tup [.int 0, .int 1]], [ob_49], .ref 1, [ob_49, ob_25]⟩,
  ⟨[.ref 0, .tup [.int 1, .int 1], .tup [.int 1, .int 0]], [ob_49], .ref 1, [ob_49, ob_26]⟩,
  ⟨[.ref 0, .tup [.int 1, .int 2], .tup [.int 0, .int 1]], [ob_49], .ref 1, [ob_49, ob_27]⟩,
  ⟨[.ref 0, .tup [.int 1, .int 2], .tup [.int 1, .int 0]], [ob_49], .ref 1, [ob_49, ob_28]⟩,
  ⟨[.ref 0, .tup [.int 1, .int 3], .tup [.int 0, .int 1]], [ob_49], .ref 1, [ob_49, ob_29]⟩,
  ⟨[.ref 0, .tup [.int 1, .int 3], .tup [.int 1, .int 0]], [ob_49], .ref 1, [ob_49, ob_46]⟩,
  ⟨[.ref 0, .tup [.int 1, .int 4], .tup [.int 0, .int 1]], [ob_49], .ref 1, [ob_49, ob_47]⟩,
  ⟨[.ref 0, .tup [.int 1, .int 4], .tup [.int 1, .int 0]], [ob_49], .ref 1, [ob_49, ob_55]⟩]
def tc_courses_of_4 : List Me := [⟨[.ref 0, .tup [.int 1, .int 5], .tup [.int 0, .int 1]], [ob_49], .ref 1, [ob_49, ob_56]⟩,
  ⟨[.ref 0, .tup [.int 1, .int 5], .tup [.int 1, .int 0]], [ob_49], .ref 1, [ob_49, ob_57]⟩,
  ⟨[.ref 0, .tup [.int 0, .int 0], .tup [.int 0, .int 1]], [ob_58], .ref 1, [ob_58, ob_18]⟩,
  ⟨[.ref 0, .tup [.int 0, .int 0], .tup [.int 1, .int 0]], [ob_58], .ref 1, [ob_58, .dct 0 []]⟩,
  ⟨[.ref 0, .tup [.int 0, .int 1], .tup [.int 0, .int 1]], [ob_58], .ref 1, [ob_58, ob_19]⟩,
  ⟨[.ref 0, .tup [.int 0, .int 1], .tup [.int 1, .int 0]], [ob_58], .ref 1, [ob_58, ob_20]⟩,
  ⟨[.ref 0, .tup [.int 0, .int 2], .tup [.int 0, .int 1]], [ob_58], .ref 1, [ob_58, ob_41]⟩,
  ⟨[.ref 0, .tup [.int 0, .int 2], .tup [.int 1, .int 0]], [ob_58], .ref 1, [ob_58, ob_22]⟩,
  ⟨[.ref 0, .tup [.int 0, .int 3], .tup [.int 0, .int 1]], [ob_58], .ref 1, [ob_58, ob_50]⟩,
  ⟨[.ref 0, .tup [.int 0, .int 3], .tup [.int 1, .int 0]], [ob_58], .ref 1, [ob_58, ob_43]⟩,
  ⟨[.ref 0, .tup [.int 0, .int 4], .tup [.int 0, .int 1]], [ob_58], .ref 1, [ob_58, ob_59]⟩,
  ⟨[.ref 0, .tup [.int 0, .int 4], .tup [.int 1, .int 0]], [ob_58], .ref 1, [ob_58, ob_52]⟩,
  ⟨[.ref 0, .tup [.int 0, .int 5], .tup [.int 0, .int 1]], [ob_58], .ref 1, [ob_58, ob_60]⟩,
  ⟨[.ref 0, .tup [.int 0, .int 5], .tup [.int 1, .int 0]], [ob_58], .ref 1, [ob_58, ob_61]⟩,
  ⟨[.ref 0, .tup [.int 0, .int 6], .tup [.int 0, .int 1]], [ob_58], .ref 1, [ob_58, ob_62]⟩,
  ⟨[.ref 0, .tup [.int 0, .int 6], .tup [.int 1, .int 0]], [ob_58], .ref 1, [ob_58, ob_63]⟩,
  ⟨[.ref 0, .tup [.int 1, .int 0], .tup [.int 0, .int 1]], [ob_58], .ref 1, [ob_58, .dct 0 []]⟩,
  ⟨[.ref 0, .tup [.int 1, .int 0], .tup [.int 1, .int 0]], [ob_58], .ref 1, [ob_58, .dct 0 []]⟩,
  ⟨[.ref 0, .tup [.int 1, .int 1], .tup [.int 0, .int 1]], [ob_58], .ref 1, [ob_58, ob_25]⟩,
  ⟨[.ref 0, .tup [.int 1, .int 1], .tup [.int 1, .int 0]], [ob_58], .ref 1, [ob_58, ob_26]⟩,
  ⟨[.ref 0, .tup [.int 1, .int 2], .tup [.int 0, .int 1]], [ob_58], .ref 1, [ob_58, ob_27]⟩,
  ⟨[.ref 0, .tup [.int 1, .int 2], .tup [.int 1, .int 0]], [ob_58], .ref 1, [ob_58, ob_28]⟩,
  ⟨[.ref 0, .tup [.int 1, .int 3], .tup [.int 0, .int 1]], [ob_58], .ref 1, [ob_58, ob_29]⟩,
  ⟨[.ref 0, .tup [.int 1, .int 3], .tup [.int 1, .int 0]], [ob_58], .ref 1, [ob_58, ob_46]⟩]
def tc_courses_of_5 : List Me := [⟨[.ref 0, .tup [.int 1, .int 4], .tup [.int 0, .int 1]], [ob_58], .ref 1, [ob_58, ob_47]⟩,
  ⟨[.ref 0, .tup [.int 1, .int 4], .tup [.int 1, .int 0]], [ob_58], .ref 1, [ob_58, ob_55]⟩,
  ⟨[.ref 0, .tup [.int 1, .int 5], .tup [.int 0, .int 1]], [ob_58], .ref 1, [ob_58, ob_56]⟩,
  ⟨[.ref 0, .tup [.int 1, .int 5], .tup [.int 1, .int 0]], [ob_58], .ref 1, [ob_58, ob_64]⟩,
  ⟨[.ref 0, .tup [.int 1, .int 6], .tup [.int 0, .int 1]], [ob_58], .ref 1, [ob_58, ob_65]⟩,
  ⟨[.ref 0, .tup [.int 1, .int 6], .tup [.int 1, .int 0]], [ob_58], .ref 1, [ob_58, ob_66]⟩,
  ⟨[.ref 0, .tup [.int 0, .int 0], .tup [.int 0, .int 1]], [ob_67], .ref 1, [ob_67, ob_18]⟩,
  ⟨[.ref 0, .tup [.int 0, .int 0], .tup [.int 1, .int 0]], [ob_67], .ref 1, [ob_67, .dct 0 []]⟩,
  ⟨[.ref 0, .tup [.int 0, .int 1], .tup [.int 0, .int 1]], [ob_67], .ref 1, [ob_67, ob_19]⟩,
  ⟨[.ref 0, .tup [.int 0, .int 1], .tup [.int 1, .int 0]], [ob_67], .ref 1, [ob_67, ob_20]⟩,
  ⟨[.ref 0, .tup [.int 0, .int 2], .tup [.int 0, .int 1]], [ob_67], .ref 1, [ob_67, ob_41]⟩,
  ⟨[.ref 0, .tup [.int 0, .int 2], .tup [.int 1, .int 0]], [ob_67], .ref 1, [ob_67, ob_22]⟩,
  ⟨[.ref 0, .tup [.int 0, .int 3], .tup [.int 0, .int 1]], [ob_67], .ref 1, [ob_67, ob_50]⟩,
  ⟨[.ref 0, .tup [.int 0, .int 3], .tup [.int 1, .int 0]], [ob_67], .ref 1, [ob_67, ob_43]⟩,
  ⟨[.ref 0, .tup [.int 0, .int 4], .tup [.int 0, .int 1]], [ob_67], .ref 1, [ob_67, ob_59]⟩,
  ⟨[.ref 0, .tup [.int 0, .int 4], .tup [.int 1, .int 0]], [ob_67], .ref 1, [ob_67, ob_52]⟩,
  ⟨[.ref 0, .tup [.int 0, .int 5], .tup [.int 0, .int 1]], [ob_67], .ref 1, [ob_67, ob_68]⟩,
  ⟨[.ref 0, .tup [.int 0, .int 5], .tup [.int 1, .int 0]], [ob_67], .ref 1, [ob_67, ob_61]⟩,
  ⟨[.ref 0, .tup [.int 0, .int 6], .tup [.int 0, .int 1]], [ob_67], .ref 1, [ob_67, ob_69]⟩,
  ⟨[.ref 0, .tup [.int 0, .int 6], .tup [.int 1, .int 0]], [ob_67], .ref 1, [ob_67, ob_70]⟩,
  ⟨[.ref 0, .tup [.int 0, .int 7], .tup [.int 0, .int 1]], [ob_67], .ref 1, [ob_67, ob_71]⟩,
  ⟨[.ref 0, .tup [.int 0, .int 7], .tup [.int 1, .int 0]], [ob_67], .ref 1, [ob_67, ob_72]⟩,
  ⟨[.ref 0, .tup [.int 1, .int 0], .tup [.int 0, .int 1]], [ob_67], .ref 1, [ob_67, .dct 0 []]⟩,
  ⟨[.ref 0, .tup [.int 1, .int 0], .tup [.int 1, .int 0]], [ob_67], .ref 1, [ob_67, .dct 0 []]⟩]
def tc_courses_of_6 : List Me := [⟨[.ref 0, .tup [.int 1, .int 1], .tup [.int 0, .int 1]], [ob_67], .ref 1, [ob_67, ob_25]⟩,
  ⟨[.ref 0, .tup [.int 1, .int 1], .tup [.int 1, .int 0]], [ob_67], .ref 1, [ob_67, ob_26]⟩,
  ⟨[.ref 0, .tup [.int 1, .int 2], .tup [.int 0, .int 1]], [ob_67], .ref 1, [ob_67, ob_27]⟩,
  ⟨[.ref 0, .tup [.int 1, .int 2], .tup [.int 1, .int 0]], [ob_67], .ref 1, [ob_67, ob_28]⟩,
  ⟨[.ref 0, .tup [.int 1, .int 3], .tup [.int 0, .int 1]], [ob_67], .ref 1, [ob_67, ob_29]⟩,
  ⟨[.ref 0, .tup [.int 1, .int 3], .tup [.int 1, .int 0]], [ob_67], .ref 1, [ob_67, ob_46]⟩,
  ⟨[.ref 0, .tup [.int 1, .int 4], .tup [.int 0, .int 1]], [ob_67], .ref 1, [ob_67, ob_47]⟩,
  ⟨[.ref 0, .tup [.int 1, .int 4], .tup [.int 1, .int 0]], [ob_67], .ref 1, [ob_67, ob_55]⟩,
  ⟨[.ref 0, .tup [.int 1, .int 5], .tup [.int 0, .int 1]], [ob_67], .ref 1, [ob_67, ob_56]⟩,
  ⟨[.ref 0, .tup [.int 1, .int 5], .tup [.int 1, .int 0]], [ob_67], .ref 1, [ob_67, ob_64]⟩,
  ⟨[.ref 0, .tup [.int 1, .int 6], .tup [.int 0, .int 1]], [ob_67], .ref 1, [ob_67, ob_65]⟩,
  ⟨[.ref 0, .tup [.int 1, .int 6], .tup [.int 1, .int 0]], [ob_67], .ref 1, [ob_67, ob_73]⟩,
  ⟨[.ref 0, .tup [.int 1, .int 7], .tup [.int 0, .int 1]], [ob_67], .ref 1, [ob_67, ob_74]⟩,
  ⟨[.ref 0, .tup [.int 1, .int 7], .tup [.int 1, .int 0]], [ob_67], .ref 1, [ob_67, ob_75]⟩,
  ⟨[.ref 0, .tup [.int 0, .int 0], .tup [.int 0, .int 1]], [ob_76], .ref 1, [ob_76, ob_18]⟩,
  ⟨[.ref 0, .tup [.int 0, .int 0], .tup [.int 1, .int 0]], [ob_76], .ref 1, [ob_76, .dct 0 []]⟩,
  ⟨[.ref 0, .tup [.int 0, .int 1], .tup [.int 0, .int 1]], [ob_76], .ref 1, [ob_76, ob_19]⟩,
  ⟨[.ref 0, .tup [.int 0, .int 1], .tup [.int 1, .int 0]], [ob_76], .ref 1, [ob_76, ob_20]⟩,
  ⟨[.ref 0, .tup [.int 0, .int 2], .tup [.int 0, .int 1]], [ob_76], .ref 1, [ob_76, ob_41]⟩,
  ⟨[.ref 0, .tup [.int 0, .int 2], .tup [.int 1, .int 0]], [ob_76], .ref 1, [ob_76, ob_22]⟩,
  ⟨[.ref 0, .tup [.int 0, .int 3], .tup [.int 0, .int 1]], [ob_76], .ref 1, [ob_76, ob_50]⟩,
  ⟨[.ref 0, .tup [.int 0, .int 3], .tup [.int 1, .int 0]], [ob_76], .ref 1, [ob_76, ob_43]⟩,
  ⟨[.ref 0, .tup [.int 0, .int 4], .tup [.int 0, .int 1]], [ob_76], .ref 1, [ob_76, ob_59]⟩,
  ⟨[.ref 0, .tup [.int 0, .int 4], .tup [.int 1, .int 0]], [ob_76], .ref 1, [ob_76, ob_52]⟩]
def tc_courses_of_7 : List Me := [⟨[.ref 0, .tup [.int 0, .int 5], .tup [.int 0, .int 1]], [ob_76], .ref 1, [ob_76, ob_68]⟩,
  ⟨[.ref 0, .tup [.int 0, .int 5], .tup [.int 1, .int 0]], [ob_76], .ref 1, [ob_76, ob_61]⟩,
  ⟨[.ref 0, .tup [.int 0, .int 6], .tup [.int 0, .int 1]], [ob_76], .ref 1, [ob_76, ob_77]⟩,
  ⟨[.ref 0, .tup [.int 0, .int 6], .tup [.int 1, .int 0]], [ob_76], .ref 1, [ob_76, ob_70]⟩,
  ⟨[.ref 0, .tup [.int 0, .int 7], .tup [.int 0, .int 1]], [ob_76], .ref 1, [ob_76, ob_78]⟩,
  ⟨[.ref 0, .tup [.int 0, .int 7], .tup [.int 1, .int 0]], [ob_76], .ref 1, [ob_76, ob_79]⟩,
  ⟨[.ref 0, .tup [.int 0, .int 8], .tup [.int 0, .int 1]], [ob_76], .ref 1, [ob_76, ob_80]⟩,
  ⟨[.ref 0, .tup [.int 0, .int 8], .tup [.int 1, .int 0]], [ob_76], .ref 1, [ob_76, ob_81]⟩,
  ⟨[.ref 0, .tup [.int 1, .int 0], .tup [.int 0, .int 1]], [ob_76], .ref 1, [ob_76, .dct 0 []]⟩,
  ⟨[.ref 0, .tup [.int 1, .int 0], .tup [.int 1, .int 0]], [ob_76], .ref 1, [ob_76, .dct 0 []]⟩,
  ⟨[.ref 0, .tup [.int 1, .int 1], .tup [.int 0, .int 1]], [ob_76], .ref 1, [ob_76, ob_25]⟩,
  ⟨[.ref 0, .tup [.int 1, .int 1], .tup [.int 1, .int 0]], [ob_76], .ref 1, [ob_76, ob_26]⟩,
  ⟨[.ref 0, .tup [.int 1, .int 2], .tup [.int 0, .int 1]], [ob_76], .ref 1, [ob_76, ob_27]⟩,
  ⟨[.ref 0, .tup [.int 1, .int 2], .tup [.int 1, .int 0]], [ob_76], .ref 1, [ob_76, ob_28]⟩,
  ⟨[.ref 0, .tup [.int 1, .int 3], .tup [.int 0, .int 1]], [ob_76], .ref 1, [ob_76, ob_29]⟩,
  ⟨[.ref 0, .tup [.int 1, .int 3], .tup [.int 1, .int 0]], [ob_76], .ref 1, [ob_76, ob_46]⟩,
  ⟨[.ref 0, .tup [.int 1, .int 4], .tup [.int 0, .int 1]], [ob_76], .ref 1, [ob_76, ob_47]⟩,
  ⟨[.ref 0, .tup [.int 1, .int 4], .tup [.int 1, .int 0]], [ob_76], .ref 1, [ob_76, ob_55]⟩,
  ⟨[.ref 0, .tup [.int 1, .int 5], .tup [.int 0, .int 1]], [ob_76], .ref 1, [ob_76, ob_56]⟩,
  ⟨[.ref 0, .tup [.int 1, .int 5], .tup [.int 1, .int 0]], [ob_76], .ref 1, [ob_76, ob_64]⟩,
  ⟨[.ref 0, .tup [.int 1, .int 6], .tup [.int 0, .int 1]], [ob_76], .ref 1, [ob_76, ob_65]⟩,
  ⟨[.ref 0, .tup [.int 1, .int 6], .tup [.int 1, .int 0]], [ob_76], .ref 1, [ob_76, ob_73]⟩,
  ⟨[.ref 0, .tup [.int 1, .int 7], .tup [.int 0, .int 1]], [ob_76], .ref 1, [ob_76, ob_74]⟩,
  ⟨[.ref 0, .tup [.int 1, .int 7], .tup [.int 1, .int 0]], [ob_76], .ref 1, [ob_76, ob_82]⟩]
def tc_courses_of_8 : List Me := [⟨[.ref 0, .tup [.int 1, .int 8], .tup [.int 0, .int 1]], [ob_76], .ref 1, [ob_76, ob_83]⟩,
  ⟨[.ref 0, .tup [.int 1, .int 8], .tup [.int 1, .int 0]], [ob_76], .ref 1, [ob_76, ob_84]⟩,
  ⟨[.ref 0, .tup [.int 0, .int 0], .tup [.int 0, .int 1]], [ob_85], .ref 1, [ob_85, ob_32]⟩,
  ⟨[.ref 0, .tup [.int 0, .int 0], .tup [.int 1, .int 0]], [ob_85], .ref 1, [ob_85, .dct 0 []]⟩,
  ⟨[.ref 0, .tup [.int 0, .int 1], .tup [.int 0, .int 1]], [ob_85], .ref 1, [ob_85, ob_33]⟩,
  ⟨[.ref 0, .tup [.int 0, .int 1], .tup [.int 1, .int 0]], [ob_85], .ref 1, [ob_85, .dct 0 []]⟩,
  ⟨[.ref 0, .tup [.int 1, .int 0], .tup [.int 0, .int 1]], [ob_85], .ref 1, [ob_85, .dct 0 []]⟩,
  ⟨[.ref 0, .tup [.int 1, .int 0], .tup [.int 1, .int 0]], [ob_85], .ref 1, [ob_85, .dct 0 []]⟩,
  ⟨[.ref 0, .tup [.int 1, .int 1], .tup [.int 0, .int 1]], [ob_85], .ref 1, [ob_85, ob_25]⟩,
  ⟨[.ref 0, .tup [.int 1, .int 1], .tup [.int 1, .int 0]], [ob_85], .ref 1, [ob_85, ob_34]⟩,
  ⟨[.ref 0, .tup [.int 0, .int 0], .tup [.int 0, .int 1]], [ob_86], .ref 1, [ob_86, ob_87]⟩,
  ⟨[.ref 0, .tup [.int 0, .int 0], .tup [.int 1, .int 0]], [ob_86], .ref 1, [ob_86, ob_4]⟩,
  ⟨[.ref 0, .tup [.int 0, .int 1], .tup [.int 0, .int 1]], [ob_86], .ref 1, [ob_86, ob_88]⟩,
  ⟨[.ref 0, .tup [.int 0, .int 1], .tup [.int 1, .int 0]], [ob_86], .ref 1, [ob_86, ob_89]⟩,
  ⟨[.ref 0, .tup [.int 0, .int 2], .tup [.int 0, .int 1]], [ob_86], .ref 1, [ob_86, ob_90]⟩,
  ⟨[.ref 0, .tup [.int 0, .int 2], .tup [.int 1, .int 0]], [ob_86], .ref 1, [ob_86, ob_91]⟩,
  ⟨[.ref 0, .tup [.int 1, .int 0], .tup [.int 0, .int 1]], [ob_86], .ref 1, [ob_86, .dct 0 []]⟩,
  ⟨[.ref 0, .tup [.int 1, .int 0], .tup [.int 1, .int 0]], [ob_86], .ref 1, [ob_86, .dct 0 []]⟩,
  ⟨[.ref 0, .tup [.int 1, .int 1], .tup [.int 0, .int 1]], [ob_86], .ref 1, [ob_86, ob_12]⟩,
  ⟨[.ref 0, .tup [.int 1, .int 1], .tup [.int 1, .int 0]], [ob_86], .ref 1, [ob_86, ob_92]⟩,
  ⟨[.ref 0, .tup [.int 1, .int 2], .tup [.int 0, .int 1]], [ob_86], .ref 1, [ob_86, ob_93]⟩,
  ⟨[.ref 0, .tup [.int 1, .int 2], .tup [.int 1, .int 0]], [ob_86], .ref 1, [ob_86, ob_94]⟩,
  ⟨[.ref 0, .tup [.int 0, .int 0], .tup [.int 0, .int 1]], [ob_95], .ref 1, [ob_95, ob_96]⟩,
  ⟨[.ref 0, .tup [.int 0, .int 1], .tup [.int 0, .int 1]], [ob_95], .ref 1, [ob_95, ob_97]⟩]
def tc_courses_of_9 : List Me := [⟨[.ref 0, .tup [.int 1, .int 0], .tup [.int 0, .int 1]], [ob_95], .ref 1, [ob_95, ob_98]⟩,
  ⟨[.ref 0, .tup [.int 1, .int 1], .tup [.int 0, .int 1]], [ob_95], .ref 1, [ob_95, ob_99]⟩]
def tc__law_courses_right_0 : List Me := [⟨[.ref 0, .ref 1], [ob_2, ob_0], .bl true, [ob_2, ob_0]⟩]
def tc_Game_lost_0 : List Me := [⟨[.ref 0, .int 0], [.obj 3 [(9, .ref 1), (8, .ref 26)], ob_100, ob_101, ob_3, ob_4, ob_102, ob_6, ob_7, ob_103, ob_8, ob_9, ob_104, ob_10, ob_11, ob_105, .dct 0 [], .dct 0 [], ob_106, ob_12, ob_13, ob_107, ob_14, ob_5, ob_108, ob_15, ob_16, .dct 0 []], .ref 27, [.obj 3 [(9, .ref 1), (8, .ref 26)], ob_100, ob_101, ob_3, ob_4, ob_102, ob_6, ob_7, ob_103, ob_8, ob_9, ob_104, ob_10, ob_11, ob_105, .dct 0 [], .dct 0 [], ob_106, ob_12, ob_13, ob_107, ob_14, ob_5, ob_108, ob_15, ob_16, .dct 0 [], ob_109]⟩,
  ⟨[.ref 0, .int 1], [.obj 3 [(9, .ref 1), (8, .ref 26)], ob_100, ob_101, ob_3, ob_4, ob_102, ob_6, ob_7, ob_103, ob_8, ob_9, ob_104, ob_10, ob_11, ob_105, .dct 0 [], .dct 0 [], ob_106, ob_12, ob_13, ob_107, ob_14, ob_5, ob_108, ob_15, ob_16, ob_109], .ref 27, [.obj 3 [(9, .ref 1), (8, .ref 26)], ob_100, ob_101, ob_3, ob_4, ob_102, ob_6, ob_7, ob_103, ob_8, ob_9, ob_104, ob_10, ob_11, ob_105, .dct 0 [], .dct 0 [], ob_106, ob_12, ob_13, ob_107, ob_14, ob_5, ob_108, ob_15, ob_16, ob_109, .dct 0 []]⟩,
  ⟨[.ref 0, .int 0], [.obj 3 [(9, .ref 1), (8, .ref 26)], ob_100, ob_101, ob_18, .dct 0 [], ob_102, ob_19, ob_20, ob_103, ob_21, ob_22, ob_104, ob_23, ob_24, ob_105, .dct 0 [], .dct 0 [], ob_106, ob_25, ob_26, ob_107, ob_27, ob_28, ob_108, ob_29, ob_30, .dct 0 []], .ref 27, [.obj 3 [(9, .ref 1), (8, .ref 26)], ob_100, ob_101, ob_18, .dct 0 [], ob_102, ob_19, ob_20, ob_103, ob_21, ob_22, ob_104, ob_23, ob_24, ob_105, .dct 0 [], .dct 0 [], ob_106, ob_25, ob_26, ob_107, ob_27, ob_28, ob_108, ob_29, ob_30, .dct 0 [], ob_110]⟩,
  ⟨[.ref 0, .int 1], [.obj 3 [(9, .ref 1), (8, .ref 26)], ob_100, ob_101, ob_18, .dct 0 [], ob_102, ob_19, ob_20, ob_103, ob_21, ob_22, ob_104, ob_23, ob_24, ob_105, .dct 0 [], .dct 0 [], ob_106, ob_25, ob_26, ob_107, ob_27, ob_28, ob_108, ob_29, ob_30, ob_111], .ref 27, [.obj 3 [(9, .ref 1), (8, .ref 26)], ob_100, ob_101, ob_18, .dct 0 [], ob_102, ob_19, ob_20, ob_103, ob_21, ob_22, ob_104, ob_23, ob_24, ob_105, .dct 0 [], .dct 0 [], ob_106, ob_25, ob_26, ob_107, ob_27, ob_28, ob_108, ob_29, ob_30, ob_111, ob_112]⟩]
def tc_Game_lost_1 : List Me := [⟨[.ref 0, .int 2], [.obj 3 [(9, .ref 1), (8, .ref 26)], ob_100, ob_101, ob_18, .dct 0 [], ob_102, ob_19, ob_20, ob_103, ob_21, ob_22, ob_104, ob_23, ob_24, ob_105, .dct 0 [], .dct 0 [], ob_106, ob_25, ob_26, ob_107, ob_27, ob_28, ob_108, ob_29, ob_30, ob_113], .ref 27, [.obj 3 [(9, .ref 1), (8, .ref 26)], ob_100, ob_101, ob_18, .dct 0 [], ob_102, ob_19, ob_20, ob_103, ob_21, ob_22, ob_104, ob_23, ob_24, ob_105, .dct 0 [], .dct 0 [], ob_106, ob_25, ob_26, ob_107, ob_27, ob_28, ob_108, ob_29, ob_30, ob_113, ob_114]⟩,
  ⟨[.ref 0, .int 3], [.obj 3 [(9, .ref 1), (8, .ref 26)], ob_100, ob_101, ob_18, .dct 0 [], ob_102, ob_19, ob_20, ob_103, ob_21, ob_22, ob_104, ob_23, ob_24, ob_105, .dct 0 [], .dct 0 [], ob_106, ob_25, ob_26, ob_107, ob_27, ob_28, ob_108, ob_29, ob_30, ob_115], .ref 27, [.obj 3 [(9, .ref 1), (8, .ref 26)], ob_100, ob_101, ob_18, .dct 0 [], ob_102, ob_19, ob_20, ob_103, ob_21, ob_22, ob_104, ob_23, ob_24, ob_105, .dct 0 [], .dct 0 [], ob_106, ob_25, ob_26, ob_107, ob_27, ob_28, ob_108, ob_29, ob_30, ob_115, ob_116]⟩,
  ⟨[.ref 0, .int 4], [.obj 3 [(9, .ref 1), (8, .ref 26)], ob_100, ob_101, ob_18, .dct 0 [], ob_102, ob_19, ob_20, ob_103, ob_21, ob_22, ob_104, ob_23, ob_24, ob_105, .dct 0 [], .dct 0 [], ob_106, ob_25, ob_26, ob_107, ob_27, ob_28, ob_108, ob_29, ob_30, ob_117], .ref 27, [.obj 3 [(9, .ref 1), (8, .ref 26)], ob_100, ob_101, ob_18, .dct 0 [], ob_102, ob_19, ob_20, ob_103, ob_21, ob_22, ob_104, ob_23, ob_24, ob_105, .dct 0 [], .dct 0 [], ob_106, ob_25, ob_26, ob_107, ob_27, ob_28, ob_108, ob_29, ob_30, ob_117, .dct 0 []]⟩,
  ⟨[.ref 0, .int 0], [.obj 3 [(9, .ref 1), (8, .ref 14)], ob_118, ob_101, ob_32, .dct 0 [], ob_102, ob_33, .dct 0 [], ob_103, .dct 0 [], .dct 0 [], ob_104, ob_25, ob_34, .dct 0 []], .ref 15, [.obj 3 [(9, .ref 1), (8, .ref 14)], ob_118, ob_101, ob_32, .dct 0 [], ob_102, ob_33, .dct 0 [], ob_103, .dct 0 [], .dct 0 [], ob_104, ob_25, ob_34, .dct 0 [], ob_119]⟩]
def tc_Game_lost_2 : List Me := [⟨[.ref 0, .int 1], [.obj 3 [(9, .ref 1), (8, .ref 14)], ob_118, ob_101, ob_32, .dct 0 [], ob_102, ob_33, .dct 0 [], ob_103, .dct 0 [], .dct 0 [], ob_104, ob_25, ob_34, ob_120], .ref 15, [.obj 3 [(9, .ref 1), (8, .ref 14)], ob_118, ob_101, ob_32, .dct 0 [], ob_102, ob_33, .dct 0 [], ob_103, .dct 0 [], .dct 0 [], ob_104, ob_25, ob_34, ob_120, ob_121]⟩,
  ⟨[.ref 0, .int 2], [.obj 3 [(9, .ref 1), (8, .ref 14)], ob_118, ob_101, ob_32, .dct 0 [], ob_102, ob_33, .dct 0 [], ob_103, .dct 0 [], .dct 0 [], ob_104, ob_25, ob_34, ob_122], .ref 15, [.obj 3 [(9, .ref 1), (8, .ref 14)], ob_118, ob_101, ob_32, .dct 0 [], ob_102, ob_33, .dct 0 [], ob_103, .dct 0 [], .dct 0 [], ob_104, ob_25, ob_34, ob_122, .dct 0 []]⟩,
  ⟨[.ref 0, .int 0], [.obj 3 [(9, .ref 1), (8, .ref 20)], ob_123, ob_101, ob_18, .dct 0 [], ob_102, ob_36, ob_20, ob_103, ob_37, ob_38, ob_104, .dct 0 [], .dct 0 [], ob_105, ob_25, ob_26, ob_106, ob_27, ob_39, .dct 0 []], .ref 21, [.obj 3 [(9, .ref 1), (8, .ref 20)], ob_123, ob_101, ob_18, .dct 0 [], ob_102, ob_36, ob_20, ob_103, ob_37, ob_38, ob_104, .dct 0 [], .dct 0 [], ob_105, ob_25, ob_26, ob_106, ob_27, ob_39, .dct 0 [], ob_110]⟩,
  ⟨[.ref 0, .int 1], [.obj 3 [(9, .ref 1), (8, .ref 20)], ob_123, ob_101, ob_18, .dct 0 [], ob_102, ob_36, ob_20, ob_103, ob_37, ob_38, ob_104, .dct 0 [], .dct 0 [], ob_105, ob_25, ob_26, ob_106, ob_27, ob_39, ob_111], .ref 21, [.obj 3 [(9, .ref 1), (8, .ref 20)], ob_123, ob_101, ob_18, .dct 0 [], ob_102, ob_36, ob_20, ob_103, ob_37, ob_38, ob_104, .dct 0 [], .dct 0 [], ob_105, ob_25, ob_26, ob_106, ob_27, ob_39, ob_111, ob_112]⟩]
def tc_Game_lost_3 : List Me := [⟨[.ref 0, .int 2], [.obj 3 [(9, .ref 1), (8, .ref 20)], ob_123, ob_101, ob_18, .dct 0 [], ob_102, ob_36, ob_20, ob_103, ob_37, ob_38, ob_104, .dct 0 [], .dct 0 [], ob_105, ob_25, ob_26, ob_106, ob_27, ob_39, ob_113], .ref 21, [.obj 3 [(9, .ref 1), (8, .ref 20)], ob_123, ob_101, ob_18, .dct 0 [], ob_102, ob_36, ob_20, ob_103, ob_37, ob_38, ob_104, .dct 0 [], .dct 0 [], ob_105, ob_25, ob_26, ob_106, ob_27, ob_39, ob_113, ob_124]⟩,
  ⟨[.ref 0, .int 3], [.obj 3 [(9, .ref 1), (8, .ref 20)], ob_123, ob_101, ob_18, .dct 0 [], ob_102, ob_36, ob_20, ob_103, ob_37, ob_38, ob_104, .dct 0 [], .dct 0 [], ob_105, ob_25, ob_26, ob_106, ob_27, ob_39, ob_125], .ref 21, [.obj 3 [(9, .ref 1), (8, .ref 20)], ob_123, ob_101, ob_18, .dct 0 [], ob_102, ob_36, ob_20, ob_103, ob_37, ob_38, ob_104, .dct 0 [], .dct 0 [], ob_105, ob_25, ob_26, ob_106, ob_27, ob_39, ob_125, .dct 0 []]⟩,
  ⟨[.ref 0, .int 0], [.obj 3 [(9, .ref 1), (8, .ref 32)], ob_126, ob_101, ob_18, .dct 0 [], ob_102, ob_19, ob_20, ob_103, ob_41, ob_22, ob_104, ob_42, ob_43, ob_105, ob_44, ob_45, ob_106, .dct 0 [], .dct 0 [], ob_107, ob_25, ob_26, ob_108, ob_27, ob_28, ob_127, ob_29, ob_46, ob_128, ob_47, ob_48, .dct 0 []], .ref 33, [.obj 3 [(9, .ref 1), (8, .ref 32)], ob_126, ob_101, ob_18, .dct 0 [], ob_102, ob_19, ob_20, ob_103, ob_41, ob_22, ob_104, ob_42, ob_43, ob_105, ob_44, ob_45, ob_106, .dct 0 [], .dct 0 [], ob_107, ob_25, ob_26, ob_108, ob_27, ob_28, ob_127, ob_29, ob_46, ob_128, ob_47, ob_48, .dct 0 [], ob_110]⟩,
  ⟨[.ref 0, .int 1], [.obj 3 [(9, .ref 1), (8, .ref 32)], ob_126, ob_101, ob_18, .dct 0 [], ob_102, ob_19, ob_20, ob_103, ob_41, ob_22, ob_104, ob_42, ob_43, ob_105, ob_44, ob_45, ob_106, .dct 0 [], .dct 0 [], ob_107, ob_25, ob_26, ob_108, ob_27, ob_28, ob_127, ob_29, ob_46, ob_128, ob_47, ob_48, ob_111], .ref 33, [.obj 3 [(9, .ref 1), (8, .ref 32)], ob_126, ob_101, ob_18, .dct 0 [], ob_102, ob_19, ob_20, ob_103, ob_41, ob_22, ob_104, ob_42, ob_43, ob_105, ob_44, ob_45, ob_106, .dct 0 [], .dct 0 [], ob_107, ob_25, ob_26, ob_108, ob_27, ob_28, ob_127, ob_29, ob_46, ob_128, ob_47, ob_48, ob_111, ob_112]⟩]
def tc_Game_lost_4 : List Me := [⟨[.ref 0, .int 2], [.obj 3 [(9, .ref 1), (8, .ref 32)], ob_126, ob_101, ob_18, .dct 0 [], ob_102, ob_19, ob_20, ob_103, ob_41, ob_22, ob_104, ob_42, ob_43, ob_105, ob_44, ob_45, ob_106, .dct 0 [], .dct 0 [], ob_107, ob_25, ob_26, ob_108, ob_27, ob_28, ob_127, ob_29, ob_46, ob_128, ob_47, ob_48, ob_113], .ref 33, [.obj 3 [(9, .ref 1), (8, .ref 32)], ob_126, ob_101, ob_18, .dct 0 [], ob_102, ob_19, ob_20, ob_103, ob_41, ob_22, ob_104, ob_42, ob_43, ob_105, ob_44, ob_45, ob_106, .dct 0 [], .dct 0 [], ob_107, ob_25, ob_26, ob_108, ob_27, ob_28, ob_127, ob_29, ob_46, ob_128, ob_47, ob_48, ob_113, ob_114]⟩,
  ⟨[.ref 0, .int 3], [.obj 3 [(9, .ref 1), (8, .ref 32)], ob_126, ob_101, ob_18, .dct 0 [], ob_102, ob_19, ob_20, ob_103, ob_41, ob_22, ob_104, ob_42, ob_43, ob_105, ob_44, ob_45, ob_106, .dct 0 [], .dct 0 [], ob_107, ob_25, ob_26, ob_108, ob_27, ob_28, ob_127, ob_29, ob_46, ob_128, ob_47, ob_48, ob_115], .ref 33, [.obj 3 [(9, .ref 1), (8, .ref 32)], ob_126, ob_101, ob_18, .dct 0 [], ob_102, ob_19, ob_20, ob_103, ob_41, ob_22, ob_104, ob_42, ob_43, ob_105, ob_44, ob_45, ob_106, .dct 0 [], .dct 0 [], ob_107, ob_25, ob_26, ob_108, ob_27, ob_28, ob_127, ob_29, ob_46, ob_128, ob_47, ob_48, ob_115, ob_129]⟩,
  ⟨[.ref 0, .int 4], [.obj 3 [(9, .ref 1), (8, .ref 32)], ob_126, ob_101, ob_18, .dct 0 [], ob_102, ob_19, ob_20, ob_103, ob_41, ob_22, ob_104, ob_42, ob_43, ob_105, ob_44, ob_45, ob_106, .dct 0 [], .dct 0 [], ob_107, ob_25, ob_26, ob_108, ob_27, ob_28, ob_127, ob_29, ob_46, ob_128, ob_47, ob_48, ob_130], .ref 33, [.obj 3 [(9, .ref 1), (8, .ref 32)], ob_126, ob_101, ob_18, .dct 0 [], ob_102, ob_19, ob_20, ob_103, ob_41, ob_22, ob_104, ob_42, ob_43, ob_105, ob_44, ob_45, ob_106, .dct 0 [], .dct 0 [], ob_107, ob_25, ob_26, ob_108, ob_27, ob_28, ob_127, ob_29, ob_46, ob_128, ob_47, ob_48, ob_130, ob_131]⟩,
  ⟨[.ref 0, .int 5], [.obj 3 [(9, .ref 1), (8, .ref 32)], ob_126, ob_101, ob_18, .dct 0 [], ob_102, ob_19, ob_20, ob_103, ob_41, ob_22, ob_104, ob_42, ob_43, ob_105, ob_44, ob_45, ob_106, .dct 0 [], .dct 0 [], ob_107, ob_25, ob_26, ob_108, ob_27, ob_28, ob_127, ob_29, ob_46, ob_128, ob_47, ob_48, ob_132], .ref 33, [.obj 3 [(9, .ref 1), (8, .ref 32)], ob_126, ob_101, ob_18, .dct 0 [], ob_102, ob_19, ob_20, ob_103, ob_41, ob_22, ob_104, ob_42, ob_43, ob_105, ob_44, ob_45, ob_106, .dct 0 [], .dct 0 [], ob_107, ob_25, ob_26, ob_108, ob_27, ob_28, ob_127, ob_29, ob_46, ob_128, ob_47, ob_48, ob_132, .dct 0 []]⟩]
def tc_Game_lost_5 : List Me := [⟨[.ref 0, .int 0], [.obj 3 [(9, .ref 1), (8, .ref 38)], ob_133, ob_101, ob_18, .dct 0 [], ob_102, ob_19, ob_20, ob_103, ob_41, ob_22, ob_104, ob_50, ob_43, ob_105, ob_51, ob_52, ob_106, ob_53, ob_54, ob_107, .dct 0 [], .dct 0 [], ob_108, ob_25, ob_26, ob_127, ob_27, ob_28, ob_128, ob_29, ob_46, ob_134, ob_47, ob_55, ob_135, ob_56, ob_57, .dct 0 []], .ref 39, [.obj 3 [(9, .ref 1), (8, .ref 38)], ob_133, ob_101, ob_18, .dct 0 [], ob_102, ob_19, ob_20, ob_103, ob_41, ob_22, ob_104, ob_50, ob_43, ob_105, ob_51, ob_52, ob_106, ob_53, ob_54, ob_107, .dct 0 [], .dct 0 [], ob_108, ob_25, ob_26, ob_127, ob_27, ob_28, ob_128, ob_29, ob_46, ob_134, ob_47, ob_55, ob_135, ob_56, ob_57, .dct 0 [], ob_110]⟩,
  ⟨[.ref 0, .int 1], [.obj 3 [(9, .ref 1), (8, .ref 38)], ob_133, ob_101, ob_18, .dct 0 [], ob_102, ob_19, ob_20, ob_103, ob_41, ob_22, ob_104, ob_50, ob_43, ob_105, ob_51, ob_52, ob_106, ob_53, ob_54, ob_107, .dct 0 [], .dct 0 [], ob_108, ob_25, ob_26, ob_127, ob_27, ob_28, ob_128, ob_29, ob_46, ob_134, ob_47, ob_55, ob_135, ob_56, ob_57, ob_111], .ref 39, [.obj 3 [(9, .ref 1), (8, .ref 38)], ob_133, ob_101, ob_18, .dct 0 [], ob_102, ob_19, ob_20, ob_103, ob_41, ob_22, ob_104, ob_50, ob_43, ob_105, ob_51, ob_52, ob_106, ob_53, ob_54, ob_107, .dct 0 [], .dct 0 [], ob_108, ob_25, ob_26, ob_127, ob_27, ob_28, ob_128, ob_29, ob_46, ob_134, ob_47, ob_55, ob_135, ob_56, ob_57, ob_111, ob_112]⟩,
  ⟨[.ref 0, .int 2], [.obj 3 [(9, .ref 1), (8, .ref 38)], ob_133, ob_101, ob_18, .dct 0 [], ob_102, ob_19, ob_20, ob_103, ob_41, ob_22, ob_104, ob_50, ob_43, ob_105, ob_51, ob_52, ob_106, ob_53, ob_54, ob_107, .dct 0 [], .dct 0 [], ob_108, ob_25, ob_26, ob_127, ob_27, ob_28, ob_128, ob_29, ob_46, ob_134, ob_47, ob_55, ob_135, ob_56, ob_57, ob_113], .ref 39, [.obj 3 [(9, .ref 1), (8, .ref 38)], ob_133, ob_101, ob_18, .dct 0 [], ob_102, ob_19, ob_20, ob_103, ob_41, ob_22, ob_104, ob_50, ob_43, ob_105, ob_51, ob_52, ob_106, ob_53, ob_54, ob_107, .dct 0 [], .dct 0 [], ob_108, ob_25, ob_26, ob_127, ob_27, ob_28, ob_128, ob_29, ob_46, ob_134, ob_47, ob_55, ob_135, ob_56, ob_57, ob_113, ob_114]⟩,
  ⟨[.ref 0, .int 3], [.obj 3 [(9, .ref 1), (8, .ref 38)], ob_133, ob_101, ob_18, .dct 0 [], ob_102, ob_19, ob_20, ob_103, ob_41, ob_22, ob_104, ob_50, ob_43, ob_105, ob_51, ob_52, ob_106, ob_53, ob_54, ob_107, .dct 0 [], .dct 0 [], ob_108, ob_25, ob_26, ob_127, ob_27, ob_28, ob_128, ob_29, ob_46, ob_134, ob_47, ob_55, ob_135, ob_56, ob_57, ob_115], .ref 39, [.obj 3 [(9, .ref 1), (8, .ref 38)], ob_133, ob_101, ob_18, .dct 0 [], ob_102, ob_19, ob_20, ob_103, ob_41, ob_22, ob_104, ob_50, ob_43, ob_105, ob_51, ob_52, ob_106, ob_53, ob_54, ob_107, .dct 0 [], .dct 0 [], ob_108, ob_25, ob_26, ob_127, ob_27, ob_28, ob_128, ob_29, ob_46, ob_134, ob_47, ob_55, ob_135, ob_56, ob_57, ob_115, ob_129]⟩]
def tc_Game_lost_6 : List Me := [⟨[.ref 0, .int 4], [.obj 3 [(9, .ref 1), (8, .ref 38)], ob_133, ob_101, ob_18, .dct 0 [], ob_102, ob_19, ob_20, ob_103, ob_41, ob_22, ob_104, ob_50, ob_43, ob_105, ob_51, ob_52, ob_106, ob_53, ob_54, ob_107, .dct 0 [], .dct 0 [], ob_108, ob_25, ob_26, ob_127, ob_27, ob_28, ob_128, ob_29, ob_46, ob_134, ob_47, ob_55, ob_135, ob_56, ob_57, ob_130], .ref 39, [.obj 3 [(9, .ref 1), (8, .ref 38)], ob_133, ob_101, ob_18, .dct 0 [], ob_102, ob_19, ob_20, ob_103, ob_41, ob_22, ob_104, ob_50, ob_43, ob_105, ob_51, ob_52, ob_106, ob_53, ob_54, ob_107, .dct 0 [], .dct 0 [], ob_108, ob_25, ob_26, ob_127, ob_27, ob_28, ob_128, ob_29, ob_46, ob_134, ob_47, ob_55, ob_135, ob_56, ob_57, ob_130, ob_136]⟩,
  ⟨[.ref 0, .int 5], [.obj 3 [(9, .ref 1), (8, .ref 38)], ob_133, ob_101, ob_18, .dct 0 [], ob_102, ob_19, ob_20, ob_103, ob_41, ob_22, ob_104, ob_50, ob_43, ob_105, ob_51, ob_52, ob_106, ob_53, ob_54, ob_107, .dct 0 [], .dct 0 [], ob_108, ob_25, ob_26, ob_127, ob_27, ob_28, ob_128, ob_29, ob_46, ob_134, ob_47, ob_55, ob_135, ob_56, ob_57, ob_137], .ref 39, [.obj 3 [(9, .ref 1), (8, .ref 38)], ob_133, ob_101, ob_18, .dct 0 [], ob_102, ob_19, ob_20, ob_103, ob_41, ob_22, ob_104, ob_50, ob_43, ob_105, ob_51, ob_52, ob_106, ob_53, ob_54, ob_107, .dct 0 [], .dct 0 [], ob_108, ob_25, ob_26, ob_127, ob_27, ob_28, ob_128, ob_29, ob_46, ob_134, ob_47, ob_55, ob_135, ob_56, ob_57, ob_137, ob_138]⟩,
  ⟨[.ref 0, .int 6], [.obj 3 [(9, .ref 1), (8, .ref 38)], ob_133, ob_101, ob_18, .dct 0 [], ob_102, ob_19, ob_20, ob_103, ob_41, ob_22, ob_104, ob_50, ob_43, ob_105, ob_51, ob_52, ob_106, ob_53, ob_54, ob_107, .dct 0 [], .dct 0 [], ob_108, ob_25, ob_26, ob_127, ob_27, ob_28, ob_128, ob_29, ob_46, ob_134, ob_47, ob_55, ob_135, ob_56, ob_57, ob_139], .ref 39, [.obj 3 [(9, .ref 1), (8, .ref 38)], ob_133, ob_101, ob_18, .dct 0 [], ob_102, ob_19, ob_20, ob_103, ob_41, ob_22, ob_104, ob_50, ob_43, ob_105, ob_51, ob_52, ob_106, ob_53, ob_54, ob_107, .dct 0 [], .dct 0 [], ob_108, ob_25, ob_26, ob_127, ob_27, ob_28, ob_128, ob_29, ob_46, ob_134, ob_47, ob_55, ob_135, ob_56, ob_57, ob_139, .dct 0 []]⟩,
  ⟨[.ref 0, .int 0], [.obj 3 [(9, .ref 1), (8, .ref 44)], ob_140, ob_101, ob_18, .dct 0 [], ob_102, ob_19, ob_20, ob_103, ob_41, ob_22, ob_104, ob_50, ob_43, ob_105, ob_59, ob_52, ob_106, ob_60, ob_61, ob_107, ob_62, ob_63, ob_108, .dct 0 [], .dct 0 [], ob_127, ob_25, ob_26, ob_128, ob_27, ob_28, ob_134, ob_29, ob_46, ob_135, ob_47, ob_55, ob_141, ob_56, ob_64, ob_142, ob_65, ob_66, .dct 0 []], .ref 45, [.obj 3 [(9, .ref 1), (8, .ref 44)], ob_140, ob_101, ob_18, .dct 0 [], ob_102, ob_19, ob_20, ob_103, ob_41, ob_22, ob_104, ob_50, ob_43, ob_105, ob_59, ob_52, ob_106, ob_60, ob_61, ob_107, ob_62, ob_63, ob_108, .dct 0 [], .dct 0 [], ob_127, ob_25, ob_26, ob_128, ob_27, ob_28, ob_134, ob_29, ob_46, ob_135, ob_47, ob_55, ob_141, ob_56, ob_64, ob_142, ob_65, ob_66, .dct 0 [], ob_110]⟩]
def tc_Game_lost_7 : List Me := [⟨[.ref 0, .int 1], [.obj 3 [(9, .ref 1), (8, .ref 44)], ob_140, ob_101, ob_18, .dct 0 [], ob_102, ob_19, ob_20, ob_103, ob_41, ob_22, ob_104, ob_50, ob_43, ob_105, ob_59, ob_52, ob_106, ob_60, ob_61, ob_107, ob_62, ob_63, ob_108, .dct 0 [], .dct 0 [], ob_127, ob_25, ob_26, ob_128, ob_27, ob_28, ob_134, ob_29, ob_46, ob_135, ob_47, ob_55, ob_141, ob_56, ob_64, ob_142, ob_65, ob_66, ob_111], .ref 45, [.obj 3 [(9, .ref 1), (8, .ref 44)], ob_140, ob_101, ob_18, .dct 0 [], ob_102, ob_19, ob_20, ob_103, ob_41, ob_22, ob_104, ob_50, ob_43, ob_105, ob_59, ob_52, ob_106, ob_60, ob_61, ob_107, ob_62, ob_63, ob_108, .dct 0 [], .dct 0 [], ob_127, ob_25, ob_26, ob_128, ob_27, ob_28, ob_134, ob_29, ob_46, ob_135, ob_47, ob_55, ob_141, ob_56, ob_64, ob_142, ob_65, ob_66, ob_111, ob_112]⟩,
  ⟨[.ref 0, .int 2], [.obj 3 [(9, .ref 1), (8, .ref 44)], ob_140, ob_101, ob_18, .dct 0 [], ob_102, ob_19, ob_20, ob_103, ob_41, ob_22, ob_104, ob_50, ob_43, ob_105, ob_59, ob_52, ob_106, ob_60, ob_61, ob_107, ob_62, ob_63, ob_108, .dct 0 [], .dct 0 [], ob_127, ob_25, ob_26, ob_128, ob_27, ob_28, ob_134, ob_29, ob_46, ob_135, ob_47, ob_55, ob_141, ob_56, ob_64, ob_142, ob_65, ob_66, ob_113], .ref 45, [.obj 3 [(9, .ref 1), (8, .ref 44)], ob_140, ob_101, ob_18, .dct 0 [], ob_102, ob_19, ob_20, ob_103, ob_41, ob_22, ob_104, ob_50, ob_43, ob_105, ob_59, ob_52, ob_106, ob_60, ob_61, ob_107, ob_62, ob_63, ob_108, .dct 0 [], .dct 0 [], ob_127, ob_25, ob_26, ob_128, ob_27, ob_28, ob_134, ob_29, ob_46, ob_135, ob_47, ob_55, ob_141, ob_56, ob_64, ob_142, ob_65, ob_66, ob_113, ob_114]⟩,
  ⟨[.ref 0, .int 3], [.obj 3 [(9, .ref 1), (8, .ref 44)], ob_140, ob_101, ob_18, .dct 0 [], ob_102, ob_19, ob_20, ob_103, ob_41, ob_22, ob_104, ob_50, ob_43, ob_105, ob_59, ob_52, ob_106, ob_60, ob_61, ob_107, ob_62, ob_63, ob_108, .dct 0 [], .dct 0 [], ob_127, ob_25, ob_26, ob_128, ob_27, ob_28, ob_134, ob_29, ob_46, ob_135, ob_47, ob_55, ob_141, ob_56, ob_64, ob_142, ob_65, ob_66, ob_115], .ref 45, [.obj 3 [(9, .ref 1), (8, .ref 44)], ob_140, ob_101, ob_18, .dct 0 [], ob_102, ob_19, ob_20, ob_103, ob_41, ob_22, ob_104, ob_50, ob_43, ob_105, ob_59, ob_52, ob_106, ob_60, ob_61, ob_107, ob_62, ob_63, ob_108, .dct 0 [], .dct 0 [], ob_127, ob_25, ob_26, ob_128, ob_27, ob_28, ob_134, ob_29, ob_46, ob_135, ob_47, ob_55, ob_141, ob_56, ob_64, ob_142, ob_65, ob_66, ob_115, ob_129]⟩,
  ⟨[.ref 0, .int 4], [.obj 3 [(9, .ref 1), (8, .ref 44)], ob_140, ob_101, ob_18, .dct 0 [], ob_102, ob_19, ob_20, ob_103, ob_41, ob_22, ob_104, ob_50, ob_43, ob_105, ob_59, ob_52, ob_106, ob_60, ob_61, ob_107, ob_62, ob_63, ob_108, .dct 0 [], .dct 0 [], ob_127, ob_25, ob_26, ob_128, ob_27, ob_28, ob_134, ob_29, ob_46, ob_135, ob_47, ob_55, ob_141, ob_56, ob_64, ob_142, ob_65, ob_66, ob_130], .ref 45, [.obj 3 [(9, .ref 1), (8, .ref 44)], ob_140, ob_101, ob_18, .dct 0 [], ob_102, ob_19, ob_20, ob_103, ob_41, ob_22, ob_104, ob_50, ob_43, ob_105, ob_59, ob_52, ob_106, ob_60, ob_61, ob_107, ob_62, ob_63, ob_108, .dct 0 [], .dct 0 [], ob_127, ob_25, ob_26, ob_128, ob_27, ob_28, ob_134, ob_29, ob_46, ob_135, ob_47, ob_55, ob_141, ob_56, ob_64, ob_142, ob_65, ob_66, ob_130, ob_136]⟩]
def tc_Game_lost_8 : List Me := [⟨[.ref 0, .int 5], [.obj 3 [(9, .ref 1), (8, .ref 44)], ob_140, ob_101, ob_18, .dct 0 [], ob_102, ob_19, ob_20, ob_103, ob_41, ob_22, ob_104, ob_50, ob_43, ob_105, ob_59, ob_52, ob_106, ob_60, ob_61, ob_107, ob_62, ob_63, ob_108, .dct 0 [], .dct 0 [], ob_127, ob_25, ob_26, ob_128, ob_27, ob_28, ob_134, ob_29, ob_46, ob_135, ob_47, ob_55, ob_141, ob_56, ob_64, ob_142, ob_65, ob_66, ob_137], .ref 45, [.obj 3 [(9, .ref 1), (8, .ref 44)], ob_140, ob_101, ob_18, .dct 0 [], ob_102, ob_19, ob_20, ob_103, ob_41, ob_22, ob_104, ob_50, ob_43, ob_105, ob_59, ob_52, ob_106, ob_60, ob_61, ob_107, ob_62, ob_63, ob_108, .dct 0 [], .dct 0 [], ob_127, ob_25, ob_26, ob_128, ob_27, ob_28, ob_134, ob_29, ob_46, ob_135, ob_47, ob_55, ob_141, ob_56, ob_64, ob_142, ob_65, ob_66, ob_137, ob_143]⟩,
  ⟨[.ref 0, .int 6], [.obj 3 [(9, .ref 1), (8, .ref 44)], ob_140, ob_101, ob_18, .dct 0 [], ob_102, ob_19, ob_20, ob_103, ob_41, ob_22, ob_104, ob_50, ob_43, ob_105, ob_59, ob_52, ob_106, ob_60, ob_61, ob_107, ob_62, ob_63, ob_108, .dct 0 [], .dct 0 [], ob_127, ob_25, ob_26, ob_128, ob_27, ob_28, ob_134, ob_29, ob_46, ob_135, ob_47, ob_55, ob_141, ob_56, ob_64, ob_142, ob_65, ob_66, ob_144], .ref 45, [.obj 3 [(9, .ref 1), (8, .ref 44)], ob_140, ob_101, ob_18, .dct 0 [], ob_102, ob_19, ob_20, ob_103, ob_41, ob_22, ob_104, ob_50, ob_43, ob_105, ob_59, ob_52, ob_106, ob_60, ob_61, ob_107, ob_62, ob_63, ob_108, .dct 0 [], .dct 0 [], ob_127, ob_25, ob_26, ob_128, ob_27, ob_28, ob_134, ob_29, ob_46, ob_135, ob_47, ob_55, ob_141, ob_56, ob_64, ob_142, ob_65, ob_66, ob_144, ob_145]⟩,
  ⟨[.ref 0, .int 7], [.obj 3 [(9, .ref 1), (8, .ref 44)], ob_140, ob_101, ob_18, .dct 0 [], ob_102, ob_19, ob_20, ob_103, ob_41, ob_22, ob_104, ob_50, ob_43, ob_105, ob_59, ob_52, ob_106, ob_60, ob_61, ob_107, ob_62, ob_63, ob_108, .dct 0 [], .dct 0 [], ob_127, ob_25, ob_26, ob_128, ob_27, ob_28, ob_134, ob_29, ob_46, ob_135, ob_47, ob_55, ob_141, ob_56, ob_64, ob_142, ob_65, ob_66, ob_146], .ref 45, [.obj 3 [(9, .ref 1), (8, .ref 44)], ob_140, ob_101, ob_18, .dct 0 [], ob_102, ob_19, ob_20, ob_103, ob_41, ob_22, ob_104, ob_50, ob_43, ob_105, ob_59, ob_52, ob_106, ob_60, ob_61, ob_107, ob_62, ob_63, ob_108, .dct 0 [], .dct 0 [], ob_127, ob_25, ob_26, ob_128, ob_27, ob_28, ob_134, ob_29, ob_46, ob_135, ob_47, ob_55, ob_141, ob_56, ob_64, ob_142, ob_65, ob_66, ob_146, .dct 0 []]⟩,
  ⟨[.ref 0, .int 0], [.obj 3 [(9, .ref 1), (8, .ref 50)], ob_147, ob_101, ob_18, .dct 0 [], ob_102, ob_19, ob_20, ob_103, ob_41, ob_22, ob_104, ob_50, ob_43, ob_105, ob_59, ob_52, ob_106, ob_68, ob_61, ob_107, ob_69, ob_70, ob_108, ob_71, ob_72, ob_127, .dct 0 [], .dct 0 [], ob_128, ob_25, ob_26, ob_134, ob_27, ob_28, ob_135, ob_29, ob_46, ob_141, ob_47, ob_55, ob_142, ob_56, ob_64, ob_148, ob_65, ob_73, ob_149, ob_74, ob_75, .dct 0 []], .ref 51, [.obj 3 [(9, .ref 1), (8, .ref 50)], ob_147, ob_101, ob_18, .dct 0 [], ob_102, ob_19, ob_20, ob_103, ob_41, ob_22, ob_104, ob_50, ob_43, ob_105, ob_59, ob_52, ob_106, ob_68, ob_61, ob_107, ob_69, ob_70, ob_108, ob_71, ob_72, ob_127, .dct 0 [], .dct 0 [], ob_128, ob_25, ob_26, ob_134, ob_27, ob_28, ob_135, ob_29, ob_46, ob_141, ob_47, ob_55, ob_142, ob_56, ob_64, ob_148, ob_65, ob_73, ob_149, ob_74, ob_75, .dct 0 [], ob_110]⟩]
def tc_Game_lost_9 : List Me := [⟨[.ref 0, .int 1], [.obj 3 [(9, .ref 1), (8, .ref 50)], ob_147, ob_101, ob_18, .dct 0 [], ob_102, ob_19, ob_20, ob_103, ob_41, ob_22, ob_104, ob_50, ob_43, ob_105, ob_59, ob_52, ob_106, ob_68, ob_61, ob_107, ob_69, ob_70, ob_108, ob_71, ob_72, ob_127, .dct 0 [], .dct 0 [], ob_128, ob_25, ob_26, ob_134, ob_27, ob_28, ob_135, ob_29, ob_46, ob_141, ob_47, ob_55, ob_142, ob_56, ob_64, ob_148, ob_65, ob_73, ob_149, ob_74, ob_75, ob_111], .ref 51, [.obj 3 [(9, .ref 1), (8, .ref 50)], ob_147, ob_101, ob_18, .dct 0 [], ob_102, ob_19, ob_20, ob_103, ob_41, ob_22, ob_104, ob_50, ob_43, ob_105, ob_59, ob_52, ob_106, ob_68, ob_61, ob_107, ob_69, ob_70, ob_108, ob_71, ob_72, ob_127, .dct 0 [], .dct 0 [], ob_128, ob_25, ob_26, ob_134, ob_27, ob_28, ob_135, ob_29, ob_46, ob_141, ob_47, ob_55, ob_142, ob_56, ob_64, ob_148, ob_65, ob_73, ob_149, ob_74, ob_75, ob_111, ob_112]⟩,
  ⟨[.ref 0, .int 2], [.obj 3 [(9, .ref 1), (8, .ref 50)], ob_147, ob_101, ob_18, .dct 0 [], ob_102, ob_19, ob_20, ob_103, ob_41, ob_22, ob_104, ob_50, ob_43, ob_105, ob_59, ob_52, ob_106, ob_68, ob_61, ob_107, ob_69, ob_70, ob_108, ob_71, ob_72, ob_127, .dct 0 [], .dct 0 [], ob_128, ob_25, ob_26, ob_134, ob_27, ob_28, ob_135, ob_29, ob_46, ob_141, ob_47, ob_55, ob_142, ob_56, ob_64, ob_148, ob_65, ob_73, ob_149, ob_74, ob_75, ob_113], .ref 51, [.obj 3 [(9, .ref 1), (8, .ref 50)], ob_147, ob_101, ob_18, .dct 0 [], ob_102, ob_19, ob_20, ob_103, ob_41, ob_22, ob_104, ob_50, ob_43, ob_105, ob_59, ob_52, ob_106, ob_68, ob_61, ob_107, ob_69, ob_70, ob_108, ob_71, ob_72, ob_127, .dct 0 [], .dct 0 [], ob_128, ob_25, ob_26, ob_134, ob_27, ob_28, ob_135, ob_29, ob_46, ob_141, ob_47, ob_55, ob_142, ob_56, ob_64, ob_148, ob_65, ob_73, ob_149, ob_74, ob_75, ob_113, ob_114]⟩,
  ⟨[.ref 0, .int 3], [.obj 3 [(9, .ref 1), (8, .ref 50)], ob_147, ob_101, ob_18, .dct 0 [], ob_102, ob_19, ob_20, ob_103, ob_41, ob_22, ob_104, ob_50, ob_43, ob_105, ob_59, ob_52, ob_106, ob_68, ob_61, ob_107, ob_69, ob_70, ob_108, ob_71, ob_72, ob_127, .dct 0 [], .dct 0 [], ob_128, ob_25, ob_26, ob_134, ob_27, ob_28, ob_135, ob_29, ob_46, ob_141, ob_47, ob_55, ob_142, ob_56, ob_64, ob_148, ob_65, ob_73, ob_149, ob_74, ob_75, ob_115], .ref 51, [.obj 3 [(9, .ref 1), (8, .ref 50)], ob_147, ob_101, ob_18, .dct 0 [], ob_102, ob_19, ob_20, ob_103, ob_41, ob_22, ob_104, ob_50, ob_43, ob_105, ob_59, ob_52, ob_106, ob_68, ob_61, ob_107, ob_69, ob_70, ob_108, ob_71, ob_72, ob_127, .dct 0 [], .dct 0 [], ob_128, ob_25, ob_26, ob_134, ob_27, ob_28, ob_135, ob_29, ob_46, ob_141, ob_47, ob_55, ob_142, ob_56, ob_64, ob_148, ob_65, ob_73, ob_149, ob_74, ob_75, ob_115, ob_129]⟩,
  ⟨[.ref 0, .int 4], [.obj 3 [(9, .ref 1), (8, .ref 50)], ob_147, ob_101, ob_18, .dct 0 [], ob_102, ob_19, ob_20, ob_103, ob_41, ob_22, ob_104, ob_50, ob_43, ob_105, ob_59, ob_52, ob_106, ob_68, ob_61, ob_107, ob_69, ob_70, ob_108, ob_71, ob_72, ob_127, .dct 0 [], .dct 0 [], ob_128, ob_25, ob_26, ob_134, ob_27, ob_28, ob_135, ob_29, ob_46, ob_141, ob_47, ob_55, ob_142, ob_56, ob_64, ob_148, ob_65, ob_73, ob_149, ob_74, ob_75, ob_130], .ref 51, [.obj 3 [(9, .ref 1), (8, .ref 50)], ob_147, ob_101, ob_18, .dct 0 [], ob_102, ob_19, ob_20, ob_103, ob_41, ob_22, ob_104, ob_50, ob_43, ob_105, ob_59, ob_52, ob_106, ob_68, ob_61, ob_107, ob_69, ob_70, ob_108, ob_71, ob_72, ob_127, .dct 0 [], .dct 0 [], ob_128, ob_25, ob_26, ob_134, ob_27, ob_28, ob_135, ob_29, ob_46, ob_141, ob_47, ob_55, ob_142, ob_56, ob_64, ob_148, ob_65, ob_73, ob_149, ob_74, ob_75, ob_130, ob_136]⟩]
def tc_Game_lost_10 : List Me := [⟨[.ref 0, .int 5], [.obj 3 [(9, .ref 1), (8, .ref 50)], ob_147, ob_101, ob_18, .dct 0 [], ob_102, ob_19, ob_20, ob_103, ob_41, ob_22, ob_104, ob_50, ob_43, ob_105, ob_59, ob_52, ob_106, ob_68, ob_61, ob_107, ob_69, ob_70, ob_108, ob_71, ob_72, ob_127, .dct 0 [], .dct 0 [], ob_128, ob_25, ob_26, ob_134, ob_27, ob_28, ob_135, ob_29, ob_46, ob_141, ob_47, ob_55, ob_142, ob_56, ob_64, ob_148, ob_65, ob_73, ob_149, ob_74, ob_75, ob_137], .ref 51, [.obj 3 [(9, .ref 1), (8, .ref 50)], ob_147, ob_101, ob_18, .dct 0 [], ob_102, ob_19, ob_20, ob_103, ob_41, ob_22, ob_104, ob_50, ob_43, ob_105, ob_59, ob_52, ob_106, ob_68, ob_61, ob_107, ob_69, ob_70, ob_108, ob_71, ob_72, ob_127, .dct 0 [], .dct 0 [], ob_128, ob_25, ob_26, ob_134, ob_27, ob_28, ob_135, ob_29, ob_46, ob_141, ob_47, ob_55, ob_142, ob_56, ob_64, ob_148, ob_65, ob_73, ob_149, ob_74, ob_75, ob_137, ob_143]⟩,
  ⟨[.ref 0, .int 6], [.obj 3 [(9, .ref 1), (8, .ref 50)], ob_147, ob_101, ob_18, .dct 0 [], ob_102, ob_19, ob_20, ob_103, ob_41, ob_22, ob_104, ob_50, ob_43, ob_105, ob_59, ob_52, ob_106, ob_68, ob_61, ob_107, ob_69, ob_70, ob_108, ob_71, ob_72, ob_127, .dct 0 [], .dct 0 [], ob_128, ob_25, ob_26, ob_134, ob_27, ob_28, ob_135, ob_29, ob_46, ob_141, ob_47, ob_55, ob_142, ob_56, ob_64, ob_148, ob_65, ob_73, ob_149, ob_74, ob_75, ob_144], .ref 51, [.obj 3 [(9, .ref 1), (8, .ref 50)], ob_147, ob_101, ob_18, .dct 0 [], ob_102, ob_19, ob_20, ob_103, ob_41, ob_22, ob_104, ob_50, ob_43, ob_105, ob_59, ob_52, ob_106, ob_68, ob_61, ob_107, ob_69, ob_70, ob_108, ob_71, ob_72, ob_127, .dct 0 [], .dct 0 [], ob_128, ob_25, ob_26, ob_134, ob_27, ob_28, ob_135, ob_29, ob_46, ob_141, ob_47, ob_55, ob_142, ob_56, ob_64, ob_148, ob_65, ob_73, ob_149, ob_74, ob_75, ob_144, ob_150]⟩,
  ⟨[.ref 0, .int 7], [.obj 3 [(9, .ref 1), (8, .ref 50)], ob_147, ob_101, ob_18, .dct 0 [], ob_102, ob_19, ob_20, ob_103, ob_41, ob_22, ob_104, ob_50, ob_43, ob_105, ob_59, ob_52, ob_106, ob_68, ob_61, ob_107, ob_69, ob_70, ob_108, ob_71, ob_72, ob_127, .dct 0 [], .dct 0 [], ob_128, ob_25, ob_26, ob_134, ob_27, ob_28, ob_135, ob_29, ob_46, ob_141, ob_47, ob_55, ob_142, ob_56, ob_64, ob_148, ob_65, ob_73, ob_149, ob_74, ob_75, ob_151], .ref 51, [.obj 3 [(9, .ref 1), (8, .ref 50)], ob_147, ob_101, ob_18, .dct 0 [], ob_102, ob_19, ob_20, ob_103, ob_41, ob_22, ob_104, ob_50, ob_43, ob_105, ob_59, ob_52, ob_106, ob_68, ob_61, ob_107, ob_69, ob_70, ob_108, ob_71, ob_72, ob_127, .dct 0 [], .dct 0 [], ob_128, ob_25, ob_26, ob_134, ob_27, ob_28, ob_135, ob_29, ob_46, ob_141, ob_47, ob_55, ob_142, ob_56, ob_64, ob_148, ob_65, ob_73, ob_149, ob_74, ob_75, ob_151, ob_152]⟩,
  ⟨[.ref 0, .int 8], [.obj 3 [(9, .ref 1), (8, .ref 50)], ob_147, ob_101, ob_18, .dct 0 [], ob_102, ob_19, ob_20, ob_103, ob_41, ob_22, ob_104, ob_50, ob_43, ob_105, ob_59, ob_52, ob_106, ob_68, ob_61, ob_107, ob_69, ob_70, ob_108, ob_71, ob_72, ob_127, .dct 0 [], .dct 0 [], ob_128, ob_25, ob_26, ob_134, ob_27, ob_28, ob_135, ob_29, ob_46, ob_141, ob_47, ob_55, ob_142, ob_56, ob_64, ob_148, ob_65, ob_73, ob_149, ob_74, ob_75, ob_153], .ref 51, [.obj 3 [(9, .ref 1), (8, .ref 50)], ob_147, ob_101, ob_18, .dct 0 [], ob_102, ob_19, ob_20, ob_103, ob_41, ob_22, ob_104, ob_50, ob_43, ob_105, ob_59, ob_52, ob_106, ob_68, ob_61, ob_107, ob_69, ob_70, ob_108, ob_71, ob_72, ob_127, .dct 0 [], .dct 0 [], ob_128, ob_25, ob_26, ob_134, ob_27, ob_28, ob_135, ob_29, ob_46, ob_141, ob_47, ob_55, ob_142, ob_56, ob_64, ob_148, ob_65, ob_73, ob_149, ob_74, ob_75, ob_153, .dct 0 []]⟩]
def tc_Game_lost_11 : List Me := [⟨[.ref 0, .int 0], [.obj 3 [(9, .ref 1), (8, .ref 56)], ob_154, ob_101, ob_18, .dct 0 [], ob_102, ob_19, ob_20, ob_103, ob_41, ob_22, ob_104, ob_50, ob_43, ob_105, ob_59, ob_52, ob_106, ob_68, ob_61, ob_107, ob_77, ob_70, ob_108, ob_78, ob_79, ob_127, ob_80, ob_81, ob_128, .dct 0 [], .dct 0 [], ob_134, ob_25, ob_26, ob_135, ob_27, ob_28, ob_141, ob_29, ob_46, ob_142, ob_47, ob_55, ob_148, ob_56, ob_64, ob_149, ob_65, ob_73, ob_155, ob_74, ob_82, ob_156, ob_83, ob_84, .dct 0 []], .ref 57, [.obj 3 [(9, .ref 1), (8, .ref 56)], ob_154, ob_101, ob_18, .dct 0 [], ob_102, ob_19, ob_20, ob_103, ob_41, ob_22, ob_104, ob_50, ob_43, ob_105, ob_59, ob_52, ob_106, ob_68, ob_61, ob_107, ob_77, ob_70, ob_108, ob_78, ob_79, ob_127, ob_80, ob_81, ob_128, .dct 0 [], .dct 0 [], ob_134, ob_25, ob_26, ob_135, ob_27, ob_28, ob_141, ob_29, ob_46, ob_142, ob_47, ob_55, ob_148, ob_56, ob_64, ob_149, ob_65, ob_73, ob_155, ob_74, ob_82, ob_156, ob_83, ob_84, .dct 0 [], ob_110]⟩,
  ⟨[.ref 0, .int 1], [.obj 3 [(9, .ref 1), (8, .ref 56)], ob_154, ob_101, ob_18, .dct 0 [], ob_102, ob_19, ob_20, ob_103, ob_41, ob_22, ob_104, ob_50, ob_43, ob_105, ob_59, ob_52, ob_106, ob_68, ob_61, ob_107, ob_77, ob_70, ob_108, ob_78, ob_79, ob_127, ob_80, ob_81, ob_128, .dct 0 [], .dct 0 [], ob_134, ob_25, ob_26, ob_135, ob_27, ob_28, ob_141, ob_29, ob_46, ob_142, ob_47, ob_55, ob_148, ob_56, ob_64, ob_149, ob_65, ob_73, ob_155, ob_74, ob_82, ob_156, ob_83, ob_84, ob_111], .ref 57, [.obj 3 [(9, .ref 1), (8, .ref 56)], ob_154, ob_101, ob_18, .dct 0 [], ob_102, ob_19, ob_20, ob_103, ob_41, ob_22, ob_104, ob_50, ob_43, ob_105, ob_59, ob_52, ob_106, ob_68, ob_61, ob_107, ob_77, ob_70, ob_108, ob_78, ob_79, ob_127, ob_80, ob_81, ob_128, .dct 0 [], .dct 0 [], ob_134, ob_25, ob_26, ob_135, ob_27, ob_28, ob_141, ob_29, ob_46, ob_142, ob_47, ob_55, ob_148, ob_56, ob_64, ob_149, ob_65, ob_73, ob_155, ob_74, ob_82, ob_156, ob_83, ob_84, ob_111, ob_112]⟩,
  ⟨[.ref 0, .int 2], [.obj 3 [(9, .ref 1), (8, .ref 56)], ob_154, ob_101, ob_18, .dct 0 [], ob_102, ob_19, ob_20, ob_103, ob_41, ob_22, ob_104, ob_50, ob_43, ob_105, ob_59, ob_52, ob_106, ob_68, ob_61, ob_107, ob_77, ob_70, ob_108, ob_78, ob_79, ob_127, ob_80, ob_81, ob_128, .dct 0 [], .dct 0 [], ob_134, ob_25, ob_26, ob_135, ob_27, ob_28, ob_141, ob_29, ob_46, ob_142, ob_47, ob_55, ob_148, ob_56, ob_64, ob_149, ob_65, ob_73, ob_155, ob_74, ob_82, ob_156, ob_83, ob_84, ob_113], .ref 57, [.obj 3 [(9, .ref 1), (8, .ref 56)], ob_154, ob_101, ob_18, .dct 0 [], ob_102, ob_19, ob_20, ob_103, ob_41, ob_22, ob_104, ob_50, ob_43, ob_105, ob_59, ob_52, ob_106, ob_68, ob_61, ob_107, ob_77, ob_70, ob_108, ob_78, ob_79, ob_127, ob_80, ob_81, ob_128, .dct 0 [], .dct 0 [], ob_134, ob_25, ob_26, ob_135, ob_27, ob_28, ob_141, ob_29, ob_46, ob_142, ob_47, ob_55, ob_148, ob_56, ob_64, ob_149, ob_65, ob_73, ob_155, ob_74, ob_82, ob_156, ob_83, ob_84, ob_113, ob_114]⟩,
  ⟨[.ref 0, .int 3], [.obj 3 [(9, .ref 1), (8, .ref 56)], ob_154, ob_101, ob_18, .dct 0 [], ob_102, ob_19, ob_20, ob_103, ob_41, ob_22, ob_104, ob_50, ob_43, ob_105, ob_59, ob_52, ob_106, ob_68, ob_61, ob_107, ob_77, ob_70, ob_108, ob_78, ob_79, ob_127, ob_80, ob_81, ob_128, .dct 0 [], .dct 0 [], ob_134, ob_25, ob_26, ob_135, ob_27, ob_28, ob_141, ob_29, ob_46, ob_142, ob_47, ob_55, ob_148, ob_56, ob_64, ob_149, ob_65, ob_73, ob_155, ob_74, ob_82, ob_156, ob_83, ob_84, ob_115], .ref 57, [.obj 3 [(9, .ref 1), (8, .ref 56)], ob_154, ob_101, ob_18, .dct 0 [], ob_102, ob_19, ob_20, ob_103, ob_41, ob_22, ob_104, ob_50, ob_43, ob_105, ob_59, ob_52, ob_106, ob_68, ob_61, ob_107, ob_77, ob_70, ob_108, ob_78, ob_79, ob_127, ob_80, ob_81, ob_128, .dct 0 [], .dct 0 [], ob_134, ob_25, ob_26, ob_135, ob_27, ob_28, ob_141, ob_29, ob_46, ob_142, ob_47, ob_55, ob_148, ob_56, ob_64, ob_149, ob_65, ob_73, ob_155, ob_74, ob_82, ob_156, ob_83, ob_84, ob_115, ob_129]⟩]
def tc_Game_lost_12 : List Me := [⟨[.ref 0, .int 4], [.obj 3 [(9, .ref 1), (8, .ref 56)], ob_154, ob_101, ob_18, .dct 0 [], ob_102, ob_19, ob_20, ob_103, ob_41, ob_22, ob_104, ob_50, ob_43, ob_105, ob_59, ob_52, ob_106, ob_68, ob_61, ob_107, ob_77, ob_70, ob_108, ob_78, ob_79, ob_127, ob_80, ob_81, ob_128, .dct 0 [], .dct 0 [], ob_134, ob_25, ob_26, ob_135, ob_27, ob_28, ob_141, ob_29, ob_46, ob_142, ob_47, ob_55, ob_148, ob_56, ob_64, ob_149, ob_65, ob_73, ob_155, ob_74, ob_82, ob_156, ob_83, ob_84, ob_130], .ref 57, [.obj 3 [(9, .ref 1), (8, .ref 56)], ob_154, ob_101, ob_18, .dct 0 [], ob_102, ob_19, ob_20, ob_103, ob_41, ob_22, ob_104, ob_50, ob_43, ob_105, ob_59, ob_52, ob_106, ob_68, ob_61, ob_107, ob_77, ob_70, ob_108, ob_78, ob_79, ob_127, ob_80, ob_81, ob_128, .dct 0 [], .dct 0 [], ob_134, ob_25, ob_26, ob_135, ob_27, ob_28, ob_141, ob_29, ob_46, ob_142, ob_47, ob_55, ob_148, ob_56, ob_64, ob_149, ob_65, ob_73, ob_155, ob_74, ob_82, ob_156, ob_83, ob_84, ob_130, ob_136]⟩,
  ⟨[.ref 0, .int 5], [.obj 3 [(9, .ref 1), (8, .ref 56)], ob_154, ob_101, ob_18, .dct 0 [], ob_102, ob_19, ob_20, ob_103, ob_41, ob_22, ob_104, ob_50, ob_43, ob_105, ob_59, ob_52, ob_106, ob_68, ob_61, ob_107, ob_77, ob_70, ob_108, ob_78, ob_79, ob_127, ob_80, ob_81, ob_128, .dct 0 [], .dct 0 [], ob_134, ob_25, ob_26, ob_135, ob_27, ob_28, ob_141, ob_29, ob_46, ob_142, ob_47, ob_55, ob_148, ob_56, ob_64, ob_149, ob_65, ob_73, ob_155, ob_74, ob_82, ob_156, ob_83, ob_84, ob_137], .ref 57, [.obj 3 [(9, .ref 1), (8, .ref 56)], ob_154, ob_101, ob_18, .dct 0 [], ob_102, ob_19, ob_20, ob_103, ob_41, ob_22, ob_104, ob_50, ob_43, ob_105, ob_59, ob_52, ob_106, ob_68, ob_61, ob_107, ob_77, ob_70, ob_108, ob_78, ob_79, ob_127, ob_80, ob_81, ob_128, .dct 0 [], .dct 0 [], ob_134, ob_25, ob_26, ob_135, ob_27, ob_28, ob_141, ob_29, ob_46, ob_142, ob_47, ob_55, ob_148, ob_56, ob_64, ob_149, ob_65, ob_73, ob_155, ob_74, ob_82, ob_156, ob_83, ob_84, ob_137, ob_143]⟩,
  ⟨[.ref 0, .int 6], [.obj 3 [(9, .ref 1), (8, .ref 56)], ob_154, ob_101, ob_18, .dct 0 [], ob_102, ob_19, ob_20, ob_103, ob_41, ob_22, ob_104, ob_50, ob_43, ob_105, ob_59, ob_52, ob_106, ob_68, ob_61, ob_107, ob_77, ob_70, ob_108, ob_78, ob_79, ob_127, ob_80, ob_81, ob_128, .dct 0 [], .dct 0 [], ob_134, ob_25, ob_26, ob_135, ob_27, ob_28, ob_141, ob_29, ob_46, ob_142, ob_47, ob_55, ob_148, ob_56, ob_64, ob_149, ob_65, ob_73, ob_155, ob_74, ob_82, ob_156, ob_83, ob_84, ob_144], .ref 57, [.obj 3 [(9, .ref 1), (8, .ref 56)], ob_154, ob_101, ob_18, .dct 0 [], ob_102, ob_19, ob_20, ob_103, ob_41, ob_22, ob_104, ob_50, ob_43, ob_105, ob_59, ob_52, ob_106, ob_68, ob_61, ob_107, ob_77, ob_70, ob_108, ob_78, ob_79, ob_127, ob_80, ob_81, ob_128, .dct 0 [], .dct 0 [], ob_134, ob_25, ob_26, ob_135, ob_27, ob_28, ob_141, ob_29, ob_46, ob_142, ob_47, ob_55, ob_148, ob_56, ob_64, ob_149, ob_65, ob_73, ob_155, ob_74, ob_82, ob_156, ob_83, ob_84, ob_144, ob_150]⟩,
  ⟨[.ref 0, .int 7], [.obj 3 [(9, .ref 1), (8, .ref 56)], ob_154, ob_101, ob_18, .dct 0 [], ob_102, ob_19, ob_20, ob_103, ob_41, ob_22, ob_104, ob_50, ob_43, ob_105, ob_59, ob_52, ob_106, ob_68, ob_61, ob_107, ob_77, ob_70, ob_108, ob_78, ob_79, ob_127, ob_80, ob_81, ob_128, .dct 0 [], .dct 0 [], ob_134, ob_25, ob_26, ob_135, ob_27, ob_28, ob_141, ob_29, ob_46, ob_142, ob_47, ob_55, ob_148, ob_56, ob_64, ob_149, ob_65, ob_73, ob_155, ob_74, ob_82, ob_156, ob_83, ob_84, ob_151], .ref 57, [.obj 3 [(9, .ref 1), (8, .ref 56)], ob_154, ob_101, ob_18, .dct 0 [], ob_102, ob_19, ob_20, ob_103, ob_41, ob_22, ob_104, ob_50, ob_43, ob_105, ob_59, ob_52, ob_106, ob_68, ob_61, ob_107, ob_77, ob_70, ob_108, ob_78, ob_79, ob_127, ob_80, ob_81, ob_128, .dct 0 [], .dct 0 [], ob_134, ob_25, ob_26, ob_135, ob_27, ob_28, ob_141, ob_29, ob_46, ob_142, ob_47, ob_55, ob_148, ob_56, ob_64, ob_149, ob_65, ob_73, ob_155, ob_74, ob_82, ob_156, ob_83, ob_84, ob_151, ob_157]⟩]
def tc_Game_lost_13 : List Me := [⟨[.ref 0, .int 8], [.obj 3 [(9, .ref 1), (8, .ref 56)], ob_154, ob_101, ob_18, .dct 0 [], ob_102, ob_19, ob_20, ob_103, ob_41, ob_22, ob_104, ob_50, ob_43, ob_105, ob_59, ob_52, ob_106, ob_68, ob_61, ob_107, ob_77, ob_70, ob_108, ob_78, ob_79, ob_127, ob_80, ob_81, ob_128, .dct 0 [], .dct 0 [], ob_134, ob_25, ob_26, ob_135, ob_27, ob_28, ob_141, ob_29, ob_46, ob_142, ob_47, ob_55, ob_148, ob_56, ob_64, ob_149, ob_65, ob_73, ob_155, ob_74, ob_82, ob_156, ob_83, ob_84, ob_158], .ref 57, [.obj 3 [(9, .ref 1), (8, .ref 56)], ob_154, ob_101, ob_18, .dct 0 [], ob_102, ob_19, ob_20, ob_103, ob_41, ob_22, ob_104, ob_50, ob_43, ob_105, ob_59, ob_52, ob_106, ob_68, ob_61, ob_107, ob_77, ob_70, ob_108, ob_78, ob_79, ob_127, ob_80, ob_81, ob_128, .dct 0 [], .dct 0 [], ob_134, ob_25, ob_26, ob_135, ob_27, ob_28, ob_141, ob_29, ob_46, ob_142, ob_47, ob_55, ob_148, ob_56, ob_64, ob_149, ob_65, ob_73, ob_155, ob_74, ob_82, ob_156, ob_83, ob_84, ob_158, ob_159]⟩,
  ⟨[.ref 0, .int 9], [.obj 3 [(9, .ref 1), (8, .ref 56)], ob_154, ob_101, ob_18, .dct 0 [], ob_102, ob_19, ob_20, ob_103, ob_41, ob_22, ob_104, ob_50, ob_43, ob_105, ob_59, ob_52, ob_106, ob_68, ob_61, ob_107, ob_77, ob_70, ob_108, ob_78, ob_79, ob_127, ob_80, ob_81, ob_128, .dct 0 [], .dct 0 [], ob_134, ob_25, ob_26, ob_135, ob_27, ob_28, ob_141, ob_29, ob_46, ob_142, ob_47, ob_55, ob_148, ob_56, ob_64, ob_149, ob_65, ob_73, ob_155, ob_74, ob_82, ob_156, ob_83, ob_84, ob_160], .ref 57, [.obj 3 [(9, .ref 1), (8, .ref 56)], ob_154, ob_101, ob_18, .dct 0 [], ob_102, ob_19, ob_20, ob_103, ob_41, ob_22, ob_104, ob_50, ob_43, ob_105, ob_59, ob_52, ob_106, ob_68, ob_61, ob_107, ob_77, ob_70, ob_108, ob_78, ob_79, ob_127, ob_80, ob_81, ob_128, .dct 0 [], .dct 0 [], ob_134, ob_25, ob_26, ob_135, ob_27, ob_28, ob_141, ob_29, ob_46, ob_142, ob_47, ob_55, ob_148, ob_56, ob_64, ob_149, ob_65, ob_73, ob_155, ob_74, ob_82, ob_156, ob_83, ob_84, ob_160, .dct 0 []]⟩,
  ⟨[.ref 0, .int 0], [.obj 3 [(9, .ref 1), (8, .ref 20)], ob_123, ob_101, ob_87, ob_4, ob_102, ob_88, ob_89, ob_103, ob_90, ob_91, ob_104, .dct 0 [], .dct 0 [], ob_105, ob_12, ob_92, ob_106, ob_93, ob_94, .dct 0 []], .ref 21, [.obj 3 [(9, .ref 1), (8, .ref 20)], ob_123, ob_101, ob_87, ob_4, ob_102, ob_88, ob_89, ob_103, ob_90, ob_91, ob_104, .dct 0 [], .dct 0 [], ob_105, ob_12, ob_92, ob_106, ob_93, ob_94, .dct 0 [], ob_109]⟩,
  ⟨[.ref 0, .int 1], [.obj 3 [(9, .ref 1), (8, .ref 20)], ob_123, ob_101, ob_87, ob_4, ob_102, ob_88, ob_89, ob_103, ob_90, ob_91, ob_104, .dct 0 [], .dct 0 [], ob_105, ob_12, ob_92, ob_106, ob_93, ob_94, ob_109], .ref 21, [.obj 3 [(9, .ref 1), (8, .ref 20)], ob_123, ob_101, ob_87, ob_4, ob_102, ob_88, ob_89, ob_103, ob_90, ob_91, ob_104, .dct 0 [], .dct 0 [], ob_105, ob_12, ob_92, ob_106, ob_93, ob_94, ob_109, .dct 0 []]⟩]
def tc_Game_lost_14 : List Me := [⟨[.ref 0, .int 0], [.obj 3 [(9, .ref 1), (8, .ref 10)], ob_161, .dct 1 [(.tup [.int 0, .int 1], .ref 3)], ob_96, .dct 1 [(.tup [.int 0, .int 1], .ref 5)], ob_97, .dct 1 [(.tup [.int 0, .int 1], .ref 7)], ob_98, .dct 1 [(.tup [.int 0, .int 1], .ref 9)], ob_99, .dct 0 []], .ref 11, [.obj 3 [(9, .ref 1), (8, .ref 10)], ob_161, .dct 1 [(.tup [.int 0, .int 1], .ref 3)], ob_96, .dct 1 [(.tup [.int 0, .int 1], .ref 5)], ob_97, .dct 1 [(.tup [.int 0, .int 1], .ref 7)], ob_98, .dct 1 [(.tup [.int 0, .int 1], .ref 9)], ob_99, .dct 0 [], .dct 0 []]⟩]
def tc_Game___init___0 : List Me := [⟨[.ref 0, .ref 1], [.obj 3 [], ob_2], .non, [.obj 3 [(9, .ref 2), (8, .ref 27)], ob_2, ob_162, ob_163, ob_3, ob_4, ob_164, ob_6, ob_7, ob_165, ob_8, ob_9, ob_166, ob_10, ob_11, ob_167, .dct 0 [], .dct 0 [], ob_168, ob_12, ob_13, ob_169, ob_14, ob_5, ob_170, ob_15, ob_16, ob_109]⟩]
def tc_Game___init___1 : List Me := [⟨[.ref 0, .ref 1], [.obj 3 [], ob_17], .non, [.obj 3 [(9, .ref 2), (8, .ref 27)], ob_17, ob_162, ob_163, ob_18, .dct 0 [], ob_164, ob_19, ob_20, ob_165, ob_21, ob_22, ob_166, ob_23, ob_24, ob_167, .dct 0 [], .dct 0 [], ob_168, ob_25, ob_26, ob_169, ob_27, ob_28, ob_170, ob_29, ob_30, ob_117]⟩]
def tc_Game___init___2 : List Me := [⟨[.ref 0, .ref 1], [.obj 3 [], ob_31], .non, [.obj 3 [(9, .ref 2), (8, .ref 15)], ob_31, ob_171, ob_163, ob_32, .dct 0 [], ob_164, ob_33, .dct 0 [], ob_165, .dct 0 [], .dct 0 [], ob_166, ob_25, ob_34, ob_122]⟩]
def tc_Game___init___3 : List Me := [⟨[.ref 0, .ref 1], [.obj 3 [], ob_35], .non, [.obj 3 [(9, .ref 2), (8, .ref 21)], ob_35, ob_172, ob_163, ob_18, .dct 0 [], ob_164, ob_36, ob_20, ob_165, ob_37, ob_38, ob_166, .dct 0 [], .dct 0 [], ob_167, ob_25, ob_26, ob_168, ob_27, ob_39, ob_125]⟩]
def tc_Game___init___4 : List Me := [⟨[.ref 0, .ref 1], [.obj 3 [], ob_40], .non, [.obj 3 [(9, .ref 2), (8, .ref 33)], ob_40, ob_173, ob_163, ob_18, .dct 0 [], ob_164, ob_19, ob_20, ob_165, ob_41, ob_22, ob_166, ob_42, ob_43, ob_167, ob_44, ob_45, ob_168, .dct 0 [], .dct 0 [], ob_169, ob_25, ob_26, ob_170, ob_27, ob_28, ob_174, ob_29, ob_46, ob_175, ob_47, ob_48, ob_132]⟩]
def tc_Game___init___5 : List Me := [⟨[.ref 0, .ref 1], [.obj 3 [], ob_49], .non, [.obj 3 [(9, .ref 2), (8, .ref 39)], ob_49, ob_176, ob_163, ob_18, .dct 0 [], ob_164, ob_19, ob_20, ob_165, ob_41, ob_22, ob_166, ob_50, ob_43, ob_167, ob_51, ob_52, ob_168, ob_53, ob_54, ob_169, .dct 0 [], .dct 0 [], ob_170, ob_25, ob_26, ob_174, ob_27, ob_28, ob_175, ob_29, ob_46, ob_177, ob_47, ob_55, ob_178, ob_56, ob_57, ob_139]⟩]
def tc_Game___init___6 : List Me := [⟨[.ref 0, .ref 1], [.obj 3 [], ob_58], .non, [.obj 3 [(9, .ref 2), (8, .ref 45)], ob_58, ob_179, ob_163, ob_18, .dct 0 [], ob_164, ob_19, ob_20, ob_165, ob_41, ob_22, ob_166, ob_50, ob_43, ob_167, ob_59, ob_52, ob_168, ob_60, ob_61, ob_169, ob_62, ob_63, ob_170, .dct 0 [], .dct 0 [], ob_174, ob_25, ob_26, ob_175, ob_27, ob_28, ob_177, ob_29, ob_46, ob_178, ob_47, ob_55, ob_180, ob_56, ob_64, ob_181, ob_65, ob_66, ob_146]⟩]
def tc_Game___init___7 : List Me := [⟨[.ref 0, .ref 1], [.obj 3 [], ob_67], .non, [.obj 3 [(9, .ref 2), (8, .ref 51)], ob_67, ob_182, ob_163, ob_18, .dct 0 [], ob_164, ob_19, ob_20, ob_165, ob_41, ob_22, ob_166, ob_50, ob_43, ob_167, ob_59, ob_52, ob_168, ob_68, ob_61, ob_169, ob_69, ob_70, ob_170, ob_71, ob_72, ob_174, .dct 0 [], .dct 0 [], ob_175, ob_25, ob_26, ob_177, ob_27, ob_28, ob_178, ob_29, ob_46, ob_180, ob_47, ob_55, ob_181, ob_56, ob_64, ob_183, ob_65, ob_73, ob_184, ob_74, ob_75, ob_153]⟩]
def tc_Game___init___8 : List Me := [⟨[.ref 0, .ref 1], [.obj 3 [], ob_76], .non, [.obj 3 [(9, .ref 2), (8, .ref 57)], ob_76, ob_185, ob_163, ob_18, .dct 0 [], ob_164, ob_19, ob_20, ob_165, ob_41, ob_22, ob_166, ob_50, ob_43, ob_167, ob_59, ob_52, ob_168, ob_68, ob_61, ob_169, ob_77, ob_70, ob_170, ob_78, ob_79, ob_174, ob_80, ob_81, ob_175, .dct 0 [], .dct 0 [], ob_177, ob_25, ob_26, ob_178, ob_27, ob_28, ob_180, ob_29, ob_46, ob_181, ob_47, ob_55, ob_183, ob_56, ob_64, ob_184, ob_65, ob_73, ob_186, ob_74, ob_82, ob_187, ob_83, ob_84, ob_160]⟩]
def tc_Game___init___9 : List Me := [⟨[.ref 0, .ref 1], [.obj 3 [], ob_85], .non, [.obj 3 [(9, .ref 2), (8, .ref 15)], ob_85, ob_171, ob_163, ob_32, .dct 0 [], ob_164, ob_33, .dct 0 [], ob_165, .dct 0 [], .dct 0 [], ob_166, ob_25, ob_34, ob_122]⟩]
def tc_Game___init___10 : List Me := [⟨[.ref 0, .ref 1], [.obj 3 [], ob_86], .non, [.obj 3 [(9, .ref 2), (8, .ref 21)], ob_86, ob_172, ob_163, ob_87, ob_4, ob_164, ob_88, ob_89, ob_165, ob_90, ob_91, ob_166, .dct 0 [], .dct 0 [], ob_167, ob_12, ob_92, ob_168, ob_93, ob_94, ob_109]⟩]
def tc_Game___init___11 : List Me := [⟨[.ref 0, .ref 1], [.obj 3 [], ob_95], .non, [.obj 3 [(9, .ref 2), (8, .ref 11)], ob_95, ob_188, .dct 1 [(.tup [.int 0, .int 1], .ref 4)], ob_96, .dct 1 [(.tup [.int 0, .int 1], .ref 6)], ob_97, .dct 1 [(.tup [.int 0, .int 1], .ref 8)], ob_98, .dct 1 [(.tup [.int 0, .int 1], .ref 10)], ob_99, .dct 0 []]⟩]
def tc_forever_of_0 : List Me := [⟨[.ref 0, .tup [.int 0, .int 1]], [ob_31], .ref 1, [ob_31, .obj 2 [(8, .ref 2)], ob_189]⟩]
def tc_forever_of_1 : List Me := [⟨[.ref 0, .tup [.int 0, .int 2]], [ob_35], .ref 1, [ob_35, .obj 2 [(8, .ref 2)], ob_190]⟩]
def tc_forever_of_2 : List Me := [⟨[.ref 0, .tup [.int 0, .int 3]], [ob_17], .ref 1, [ob_17, .obj 2 [(8, .ref 2)], ob_191]⟩]
def tc_forever_of_3 : List Me := [⟨[.ref 0, .tup [.int 0, .int 4]], [ob_40], .ref 1, [ob_40, .obj 2 [(8, .ref 2)], ob_192]⟩]
def tc_forever_of_4 : List Me := [⟨[.ref 0, .tup [.int 0, .int 5]], [ob_49], .ref 1, [ob_49, .obj 2 [(8, .ref 2)], ob_193]⟩]
def tc_forever_of_5 : List Me := [⟨[.ref 0, .tup [.int 0, .int 6]], [ob_58], .ref 1, [ob_58, .obj 2 [(8, .ref 2)], ob_194]⟩]
def tc_forever_of_6 : List Me := [⟨[.ref 0, .tup [.int 0, .int 7]], [ob_67], .ref 1, [ob_67, .obj 2 [(8, .ref 2)], ob_195]⟩]
def tc_forever_of_7 : List Me := [⟨[.ref 0, .tup [.int 0, .int 8]], [ob_76], .ref 1, [ob_76, .obj 2 [(8, .ref 2)], ob_196]⟩]
def tc_forever_of_8 : List Me := [⟨[.ref 0, .tup [.int 0, .int 1]], [ob_85], .ref 1, [ob_85, .obj 2 [(8, .ref 2)], ob_189]⟩]
def tc_forever_of_9 : List Me := [⟨[.ref 0, .tup [.int 0, .int 2]], [ob_86], .ref 1, [ob_86, .obj 1 [(6, .ref 2), (7, .ref 3)], .lst [.tup [.int 0, .int 2], .tup [.int 1, .int 1]], ob_197]⟩]
def tc_forever_of_10 : List Me := [⟨[.ref 0, .tup [.int 1, .int 1]], [ob_85], .ref 1, [ob_85, .obj 2 [(8, .ref 2)], ob_189]⟩]
def tc_forever_of_11 : List Me := [⟨[.ref 0, .tup [.int 1, .int 2]], [ob_86], .ref 1, [ob_86, .obj 1 [(6, .ref 2), (7, .ref 3)], .lst [.tup [.int 1, .int 2], .tup [.int 1, .int 1]], ob_198]⟩]
def tc_forever_of_12 : List Me := [⟨[.ref 0, .tup [.int 1, .int 0]], [ob_2], .ref 1, [ob_2, .obj 2 [(8, .ref 2)], ob_109]⟩]
def tc_forever_of_13 : List Me := [⟨[.ref 0, .tup [.int 1, .int 1]], [ob_2], .ref 1, [ob_2, .obj 1 [(6, .ref 2), (7, .ref 3)], .lst [.tup [.int 1, .int 1]], ob_199]⟩]
def tc_forever_of_14 : List Me := [⟨[.ref 0, .tup [.int 0, .int 0]], [ob_2], .ref 1, [ob_2, .obj 1 [(6, .ref 2), (7, .ref 3)], .lst [.tup [.int 0, .int 0], .tup [.int 1, .int 2]], ob_200]⟩]
def tc_forever_of_15 : List Me := [⟨[.ref 0, .tup [.int 0, .int 1]], [ob_95], .ref 1, [ob_95, .obj 1 [(6, .ref 2), (7, .ref 3)], .lst [.tup [.int 0, .int 1], .tup [.int 1, .int 1]], ob_201]⟩]
def tc_forever_of_16 : List Me := [⟨[.ref 0, .tup [.int 0, .int 3]], [ob_2], .ref 1, [ob_2, .obj 1 [(6, .ref 2), (7, .ref 3)], ob_202, ob_203]⟩]
def tc__law_forever_right_0 : List Me := [⟨[.ref 0, .ref 1], [ob_2, ob_17], .bl true, [ob_2, ob_17]⟩]
def tc__law_batteries_right_0 : List Me := [⟨[.ref 0], [ob_17], .bl true, [ob_17]⟩]
def tc__law_soon_right_0 : List Me := [⟨[.ref 0, .ref 1], [ob_2, ob_17], .bl true, [ob_2, ob_17]⟩]
end K06

set_option Elab.async false
set_option linter.all false
set_option autoImplicit false
set_option maxRecDepth 100000
set_option maxHeartbeats 400000
namespace K06
open PySem PySem.Spec L2 LT
def na (c a : Nat) : Bool := match c with
  | 0 => Nat.beq a 0 || Nat.beq a 1 || Nat.beq a 2 || Nat.beq a 3 || Nat.beq a 4 || Nat.beq a 5
  | 1 => Nat.beq a 6 || Nat.beq a 7
  | 2 => Nat.beq a 8
  | 3 => Nat.beq a 9 || Nat.beq a 8
  | 4 => Nat.beq a 10 || Nat.beq a 11 || Nat.beq a 12
  | 5 => Nat.beq a 13 || Nat.beq a 6 || Nat.beq a 7 || Nat.beq a 8
  | 6 => Nat.beq a 10 || Nat.beq a 8 || Nat.beq a 14 || Nat.beq a 7
  | _ => false
theorem hs_0 : s_0 = "charge" := by decide +kernel
theorem hs_1 : s_1 = "ride" := by decide +kernel
def v_MAX_BATTERY : LV := .int 8
def v_RIDE : LV := .str s_1
def v_CHARGE : LV := .tup [.str s_0]
def v_MAX_MINUTES : LV := .int 10
def v_MAX_ORDERS : LV := .int 4
def v_MAX_ROADS : LV := .int 6
def v_MAX_PLACES : LV := .int 4
def v_MAX_STEP : LV := .int 3
def ai_Rides (t : Nat) : Option Bool := if Nat.blt t 14 = true then some (Nat.beq t 8) else none
def ai_Town (t : Nat) : Option Bool := if Nat.blt t 14 = true then some (Nat.beq t 7) else none
def ai_bool (t : Nat) : Option Bool := if Nat.blt t 7 = true then some (Nat.beq t 1) else if Nat.blt t 14 = true then some false else none
def ai_int (t : Nat) : Option Bool := if Nat.blt t 7 = true then some (Nat.beq t 2 || Nat.beq t 1) else if Nat.blt t 14 = true then some false else none
def ai_tuple (t : Nat) : Option Bool := if Nat.blt t 7 = true then some (Nat.beq t 4) else if Nat.blt t 14 = true then some false else none
def ai_str (t : Nat) : Option Bool := if Nat.blt t 7 = true then some (Nat.beq t 3) else if Nat.blt t 14 = true then some false else none
def ai_Stalls (t : Nat) : Option Bool := if Nat.blt t 14 = true then some (Nat.beq t 9) else none
def ai_list_tuple (t : Nat) : Option Bool := if Nat.blt t 7 = true then some (Nat.beq t 5 || Nat.beq t 4) else if Nat.blt t 14 = true then some false else none
def m_check_town : Ls := (sIf (tNotL (tOf (eIsi ai_Town (eVar 0)))) sBad sNil)
def f_check_town : List LV → LH → Rs LV := frame (lBody 1 1 m_check_town)
def m_is_integer : Ls := (sRet (eAnd (eIsi ai_int (eVar 0)) (eAnd (eNot (eIsi ai_bool (eVar 0))) (eChain leV leV (eVar 1) (eVar 0) (eVar 2)))))
def f_is_integer : List LV → LH → Rs LV := frame (lBody 3 3 m_is_integer)
def m_check_place : Ls := (sSeq (sExp (eCall f_check_town (aCons (eVar 0) aNil))) (frc (sIf (tNotL (tOf (eCall f_is_integer (aCons (eVar 1) (aCons (eC (.int 0)) (aCons (eOp subV (eFld na 0 (eVar 0)) (eC (.int 1))) aNil)))))) sBad sNil)))
def f_check_place : List LV → LH → Rs LV := frame (lBody 2 2 m_check_place)
def m_all_states : Ls := (sRet (eLc2 (iRg1 (aCons (eFld na 0 (eVar 0)) aNil)) (gNm 1) tYesL (iRg1 (aCons (eOp addV (eFld na 5 (eVar 0)) (eC (.int 1))) aNil)) (gNm 2) tYesL (eTup (aCons (eVar 1) (aCons (eVar 2) aNil))) [1, 2] [2]))
def f_all_states : List LV → LH → Rs LV := frame (lBody 1 3 m_all_states)
def m_is_new : Ls := (sSeq (sIf (tOf (eOp notInV (eVar 2) (eVar 0))) (sRet (eC (.bl true))) sNil) (frc (sSeq (sAsg (gNm 4) (eLc (iDp (eVar 1)) (gTp 2 (gsCons (gNm 5) (gsCons (gNm 6) gsNil))) (tAndL (tOf (eOp gtV (eVar 5) (eVar 3))) (tOf (eOp inV (eVar 2) (eVar 6)))) (eVar 5) [5, 6])) (frc (sSeq (sFor (iVal (eVar 4)) (gNm 5) (frc (sExp (eBm 5 lRemove (eOp subI (eVar 1) (eVar 5)) (aCons (eVar 2) aNil))))) (frc (sRet (eOp neV2 (eVar 4) (eLst aNil)))))))))
def f_is_new : List LV → LH → Rs LV := (lBody 4 7 m_is_new)
def m_stage_after : Ls := (sSeq (sIf (tAndL (tOf (eOp eqV2 (eVar 1) (eC (.int 0)))) (tOf (eOp eqV2 (eVar 2) (eOp subI (eVar 0) (eC (.int 0)))))) (sRet (eC (.int 1))) sNil) (frc (sRet (eIf (tAndL (tOf (eOp eqV2 (eVar 1) (eC (.int 1)))) (tOf (eOp eqV2 (eVar 2) (eOp subI (eVar 0) (eC (.int 1)))))) (eC (.int 2)) (eVar 1)))))
def f_stage_after : List LV → LH → Rs LV := frame (lBody 3 3 m_stage_after)
def m_steps_at : Ls := (sSeq (sAsg (gTp 2 (gsCons (gNm 3) (gsCons (gNm 4) gsNil))) (eVar 1)) (frc (sSeq (sAsg (gNm 2) (eLst aNil)) (frc (sSeq (sIf (tAndL (tOf (eOp inV (eVar 3) (eFld na 2 (eVar 0)))) (tOf (eOp ltD (eVar 4) (eFld na 5 (eVar 0))))) (sExp (eBm 5 lAppend (eVar 2) (aCons (eTup (aCons (eC v_CHARGE) (aCons (eTup (aCons (eVar 3) (aCons (eOp addV (eVar 4) (eC (.int 1))) aNil))) (aCons (eC (.int 1)) aNil)))) aNil))) sNil) (frc (sSeq (sFor (iEn (aCons (eFld na 1 (eVar 0)) aNil)) (gTp 2 (gsCons (gNm 5) (gsCons (gTp 4 (gsCons (gNm 6) (gsCons (gNm 7) (gsCons (gNm 8) (gsCons (gNm 9) gsNil))))) gsNil))) (frc (sIf (tAndL (tOf (eOp inV (eVar 3) (eTup (aCons (eVar 6) (aCons (eVar 7) aNil))))) (tOf (eOp geV (eVar 4) (eVar 9)))) (sSeq (sAsg (gNm 10) (eIf (tOf (eOp eqV2 (eVar 3) (eVar 6))) (eVar 7) (eVar 6))) (frc (sExp (eBm 5 lAppend (eVar 2) (aCons (eTup (aCons (eTup (aCons (eC v_RIDE) (aCons (eVar 5) aNil))) (aCons (eTup (aCons (eVar 10) (aCons (eOp subV (eVar 4) (eVar 9)) aNil))) (aCons (eVar 8) aNil)))) aNil))))) sNil))) (frc (sRet (eVar 2))))))))))
def f_steps_at : List LV → LH → Rs LV := frame (lBody 2 11 m_steps_at)
def m_courses_of : Ls := (sSeq (sAsg (gNm 3) (eTup (aCons (eVar 1) (aCons (eCall f_stage_after (aCons (eVar 2) (aCons (eC (.int 0)) (aCons (eOp subI (eVar 1) (eC (.int 0))) aNil)))) aNil)))) (frc (sSeq (sPar 6 7 (aCons (eDisp (pCons (eVar 3) (eTup aNil) pNil)) (aCons (eDisp (pCons (eC (.int 0)) (eLst (aCons (eVar 3) aNil)) pNil)) aNil))) (frc (sSeq (sFor (iRg1 (aCons (eFld na 4 (eVar 0)) aNil)) (gNm 4) (frc (sFor (iVal (eBm 6 dGet (eVar 7) (aCons (eVar 4) (aCons (eLst aNil) aNil)))) (gNm 8) (frc (sFor (iVal (eCall f_steps_at (aCons (eVar 0) (aCons (eOp subI (eVar 8) (eC (.int 0))) aNil)))) (gTp 3 (gsCons (gNm 10) (gsCons (gNm 11) (gsCons (gNm 12) gsNil)))) (frc (sSeq (sAsg (gNm 9) (eTup (aCons (eVar 11) (aCons (eCall f_stage_after (aCons (eVar 2) (aCons (eOp subI (eVar 8) (eC (.int 1))) (aCons (eOp subI (eVar 11) (eC (.int 0))) aNil)))) aNil)))) (frc (sIf (tAndL (tOf (eOp leV (eOp addV (eVar 4) (eVar 12)) (eFld na 4 (eVar 0)))) (tOf (eCall f_is_new (aCons (eVar 6) (aCons (eVar 7) (aCons (eVar 9) (aCons (eOp addV (eVar 4) (eVar 12)) aNil))))))) (sSeq (sAsg (gSb (eVar 6) (eVar 9)) (eTup (aStar (eOp subI (eVar 6) (eVar 8)) (aCons (eVar 10) aNil)))) (frc (sExp (eBm 5 lAppend (eBm 6 dSetdef (eVar 7) (aCons (eOp addV (eVar 4) (eVar 12)) (aCons (eLst aNil) aNil))) (aCons (eVar 9) aNil))))) sNil))))))))) (frc (sSeq (sAsg (gNm 5) (eDc (iDp (eVar 6)) (gTp 2 (gsCons (gNm 9) (gsCons (gNm 13) gsNil))) (tOf (eOp eqV2 (eOp subI (eVar 9) (eC (.int 1))) (eC (.int 2)))) (eOp subI (eVar 9) (eC (.int 0))) (eVar 13) [9, 13])) (frc (sRet (eDc (iVal (eB rSortL (aCons (eVar 5) aNil))) (gNm 9) tYesL (eVar 9) (eOp subI (eVar 5) (eVar 9)) [9]))))))))))
def c_courses_of : List LV → LH → Rs LV := frame (lBody 3 14 m_courses_of)
theorem q_courses_of_0 : tc_courses_of_0.all (isMe c_courses_of) = true := by decide +kernel
theorem q_courses_of_1 : tc_courses_of_1.all (isMe c_courses_of) = true := by decide +kernel
theorem q_courses_of_2 : tc_courses_of_2.all (isMe c_courses_of) = true := by decide +kernel
theorem q_courses_of_3 : tc_courses_of_3.all (isMe c_courses_of) = true := by decide +kernel
theorem q_courses_of_4 : tc_courses_of_4.all (isMe c_courses_of) = true := by decide +kernel
theorem q_courses_of_5 : tc_courses_of_5.all (isMe c_courses_of) = true := by decide +kernel
theorem q_courses_of_6 : tc_courses_of_6.all (isMe c_courses_of) = true := by decide +kernel
theorem q_courses_of_7 : tc_courses_of_7.all (isMe c_courses_of) = true := by decide +kernel
theorem q_courses_of_8 : tc_courses_of_8.all (isMe c_courses_of) = true := by decide +kernel
theorem q_courses_of_9 : tc_courses_of_9.all (isMe c_courses_of) = true := by decide +kernel
def tbl_courses_of : List Me := tc_courses_of_0 ++ tc_courses_of_1 ++ tc_courses_of_2 ++ tc_courses_of_3 ++ tc_courses_of_4 ++ tc_courses_of_5 ++ tc_courses_of_6 ++ tc_courses_of_7 ++ tc_courses_of_8 ++ tc_courses_of_9
theorem tok_courses_of : (tbl_courses_of.all fun e => isMe c_courses_of e) = true := by
  unfold tbl_courses_of
  simp only [List.all_append, q_courses_of_0, q_courses_of_1, q_courses_of_2, q_courses_of_3, q_courses_of_4, q_courses_of_5, q_courses_of_6, q_courses_of_7, q_courses_of_8, q_courses_of_9, Bool.and_self]
def f_courses_of : List LV → LH → Rs LV := frame (memo tbl_courses_of c_courses_of)
def m_Game_lost : Ls := (sSeq (sAsg (gNm 2) eDnew) (frc (sSeq (sFor (iDp (eFld na 9 (eVar 0))) (gTp 2 (gsCons (gNm 3) (gsCons (gNm 4) gsNil))) (frc (sSeq (sAsg (gNm 5) (eLc (iDp (eVar 4)) (gTp 2 (gsCons (gNm 6) (gsCons (gNm 7) gsNil))) (tOf (eB rAllL (aCons (eLc (iVal (eVar 7)) (gNm 8) tYesL (eOp inV (eVar 8) (eFld na 8 (eVar 0))) [8]) aNil))) (eVar 6) [6, 7])) (frc (sIf (tAndL (tOf (eOp notInV (eVar 3) (eFld na 8 (eVar 0)))) (tOf (eOp neV2 (eVar 5) (eLst aNil)))) (sAsg (gSb (eVar 2) (eVar 3)) (eTup (aCons (eVar 1) (aCons (eOp subI (eVar 5) (eC (.int 0))) aNil)))) sNil))))) (frc (sRet (eVar 2))))))
def c_Game_lost : List LV → LH → Rs LV := frame (lBody 2 9 m_Game_lost)
theorem q_Game_lost_0 : tc_Game_lost_0.all (isMe c_Game_lost) = true := by decide +kernel
theorem q_Game_lost_1 : tc_Game_lost_1.all (isMe c_Game_lost) = true := by decide +kernel
theorem q_Game_lost_2 : tc_Game_lost_2.all (isMe c_Game_lost) = true := by decide +kernel
theorem q_Game_lost_3 : tc_Game_lost_3.all (isMe c_Game_lost) = true := by decide +kernel
theorem q_Game_lost_4 : tc_Game_lost_4.all (isMe c_Game_lost) = true := by decide +kernel
theorem q_Game_lost_5 : tc_Game_lost_5.all (isMe c_Game_lost) = true := by decide +kernel
theorem q_Game_lost_6 : tc_Game_lost_6.all (isMe c_Game_lost) = true := by decide +kernel
theorem q_Game_lost_7 : tc_Game_lost_7.all (isMe c_Game_lost) = true := by decide +kernel
theorem q_Game_lost_8 : tc_Game_lost_8.all (isMe c_Game_lost) = true := by decide +kernel
theorem q_Game_lost_9 : tc_Game_lost_9.all (isMe c_Game_lost) = true := by decide +kernel
theorem q_Game_lost_10 : tc_Game_lost_10.all (isMe c_Game_lost) = true := by decide +kernel
theorem q_Game_lost_11 : tc_Game_lost_11.all (isMe c_Game_lost) = true := by decide +kernel
theorem q_Game_lost_12 : tc_Game_lost_12.all (isMe c_Game_lost) = true := by decide +kernel
theorem q_Game_lost_13 : tc_Game_lost_13.all (isMe c_Game_lost) = true := by decide +kernel
theorem q_Game_lost_14 : tc_Game_lost_14.all (isMe c_Game_lost) = true := by decide +kernel
def tbl_Game_lost : List Me := tc_Game_lost_0 ++ tc_Game_lost_1 ++ tc_Game_lost_2 ++ tc_Game_lost_3 ++ tc_Game_lost_4 ++ tc_Game_lost_5 ++ tc_Game_lost_6 ++ tc_Game_lost_7 ++ tc_Game_lost_8 ++ tc_Game_lost_9 ++ tc_Game_lost_10 ++ tc_Game_lost_11 ++ tc_Game_lost_12 ++ tc_Game_lost_13 ++ tc_Game_lost_14
theorem tok_Game_lost : (tbl_Game_lost.all fun e => isMe c_Game_lost e) = true := by
  unfold tbl_Game_lost
  simp only [List.all_append, q_Game_lost_0, q_Game_lost_1, q_Game_lost_2, q_Game_lost_3, q_Game_lost_4, q_Game_lost_5, q_Game_lost_6, q_Game_lost_7, q_Game_lost_8, q_Game_lost_9, q_Game_lost_10, q_Game_lost_11, q_Game_lost_12, q_Game_lost_13, q_Game_lost_14, Bool.and_self]
def f_Game_lost : List LV → LH → Rs LV := frame (memo tbl_Game_lost c_Game_lost)
def mt_lost_3 : MT := fun c => match c with
  | 3 => some f_Game_lost
  | _ => none
def m_Game___init__ : Ls := (sSeq (sFldL na 9 (eVar 0) eDnew) (frc (sSeq (sFor (iVal (eCall f_all_states (aCons (eVar 1) aNil))) (gNm 2) (frc (sAsg (gSb (eFld na 9 (eVar 0)) (eVar 2)) (eDc (iVal (eFld na 3 (eVar 1))) (gNm 5) tYesL (eVar 5) (eCall f_courses_of (aCons (eVar 1) (aCons (eVar 2) (aCons (eVar 5) aNil)))) [5])))) (frc (sSeq (sFldL na 8 (eVar 0) eDnew) (frc (sSeq (sPar 3 4 (aCons (eC (.int 0)) (aCons (eMeth mt_lost_3 19 (eVar 0) (aCons (eC (.int 0)) aNil)) aNil))) (frc (wLoop (tOf (eOp neV2 (eVar 4) eDnew)) (frc (sSeq (sExp (eBm 6 dUpdate (eFld na 8 (eVar 0)) (aCons (eVar 4) aNil))) (frc (sSeq (sAug 3 (eC (.int 1))) (frc (sAsg (gNm 4) (eMeth mt_lost_3 19 (eVar 0) (aCons (eVar 3) aNil)))))))) 1000)))))))))
def c_Game___init__ : List LV → LH → Rs LV := frame (lBody 2 6 m_Game___init__)
theorem q_Game___init___0 : tc_Game___init___0.all (isMe c_Game___init__) = true := by decide +kernel
theorem q_Game___init___1 : tc_Game___init___1.all (isMe c_Game___init__) = true := by decide +kernel
theorem q_Game___init___2 : tc_Game___init___2.all (isMe c_Game___init__) = true := by decide +kernel
theorem q_Game___init___3 : tc_Game___init___3.all (isMe c_Game___init__) = true := by decide +kernel
theorem q_Game___init___4 : tc_Game___init___4.all (isMe c_Game___init__) = true := by decide +kernel
theorem q_Game___init___5 : tc_Game___init___5.all (isMe c_Game___init__) = true := by decide +kernel
theorem q_Game___init___6 : tc_Game___init___6.all (isMe c_Game___init__) = true := by decide +kernel
theorem q_Game___init___7 : tc_Game___init___7.all (isMe c_Game___init__) = true := by decide +kernel
theorem q_Game___init___8 : tc_Game___init___8.all (isMe c_Game___init__) = true := by decide +kernel
theorem q_Game___init___9 : tc_Game___init___9.all (isMe c_Game___init__) = true := by decide +kernel
theorem q_Game___init___10 : tc_Game___init___10.all (isMe c_Game___init__) = true := by decide +kernel
theorem q_Game___init___11 : tc_Game___init___11.all (isMe c_Game___init__) = true := by decide +kernel
def tbl_Game___init__ : List Me := tc_Game___init___0 ++ tc_Game___init___1 ++ tc_Game___init___2 ++ tc_Game___init___3 ++ tc_Game___init___4 ++ tc_Game___init___5 ++ tc_Game___init___6 ++ tc_Game___init___7 ++ tc_Game___init___8 ++ tc_Game___init___9 ++ tc_Game___init___10 ++ tc_Game___init___11
theorem tok_Game___init__ : (tbl_Game___init__.all fun e => isMe c_Game___init__ e) = true := by
  unfold tbl_Game___init__
  simp only [List.all_append, q_Game___init___0, q_Game___init___1, q_Game___init___2, q_Game___init___3, q_Game___init___4, q_Game___init___5, q_Game___init___6, q_Game___init___7, q_Game___init___8, q_Game___init___9, q_Game___init___10, q_Game___init___11, Bool.and_self]
def f_Game___init__ : List LV → LH → Rs LV := frame (memo tbl_Game___init__ c_Game___init__)
def m_Rides___init__ : Ls := (sSeq (sFldL na 6 (eVar 0) (eB rListL (aCons (eVar 1) aNil))) (frc (sFldL na 7 (eVar 0) (eDc (iDp (eVar 2)) (gTp 2 (gsCons (gNm 3) (gsCons (gNm 4) gsNil))) tYesL (eVar 3) (eVar 4) [3, 4]))))
def f_Rides___init__ : List LV → LH → Rs LV := frame (lBody 3 5 m_Rides___init__)
def m_Stalls___init__ : Ls := (sFldL na 8 (eVar 0) (eDc (iDp (eVar 1)) (gTp 2 (gsCons (gNm 2) (gsCons (gNm 3) gsNil))) tYesL (eVar 2) (eVar 3) [2, 3]))
def f_Stalls___init__ : List LV → LH → Rs LV := frame (lBody 2 4 m_Stalls___init__)
def m_Game_safe_from : Ls := (sSeq (sPar3 2 3 4 (aCons (eDc (iVal (eVar 1)) (gNm 5) tYesL (eVar 5) (eC (.bl true)) [5]) (aCons (eB rListL (aCons (eVar 1) aNil)) (aCons eDnew aNil)))) (frc (sSeq (wLoop (tOf (eOp neV2 (eVar 3) (eLst aNil))) (frc (sSeq (sAsg (gNm 5) (eBm 5 lPop (eVar 3) (aCons (eC (.int 0)) aNil))) (frc (sFor (iDp (eOp subI (eFld na 9 (eVar 0)) (eVar 5))) (gTp 2 (gsCons (gNm 6) (gsCons (gNm 7) gsNil))) (frc (sSeq (sAsg (gNm 8) (eOp subI (eLc (iVal (eVar 7)) (gNm 9) (tOf (eOp notInV (eVar 9) (eFld na 8 (eVar 0)))) (eVar 9) [9]) (eNeg (eC (.int 1))))) (frc (sSeq (sAsg (gSb (eVar 4) (eTup (aCons (eVar 5) (aCons (eVar 6) aNil)))) (eOp subI (eVar 7) (eVar 8))) (frc (sIf (tOf (eOp notInV (eVar 8) (eVar 2))) (sSeq (sAsg (gSb (eVar 2) (eVar 8)) (eC (.bl true))) (frc (sExp (eBm 5 lAppend (eVar 3) (aCons (eVar 8) aNil))))) sNil)))))))))) 1000) (frc (sRet (eTup (aCons (eB rListL (aCons (eVar 2) aNil)) (aCons (eVar 4) aNil))))))))
def f_Game_safe_from : List LV → LH → Rs LV := frame (lBody 2 10 m_Game_safe_from)
def mt_safe_from_3 : MT := fun c => match c with
  | 3 => some f_Game_safe_from
  | _ => none
def m_forever_of : Ls := (sSeq (sAsg (gNm 2) (eMake 3 f_Game___init__ (aCons (eVar 0) aNil))) (frc (sSeq (sIf (tOf (eOp inV (eVar 1) (eFld na 8 (eVar 2)))) (sRet (eMake 2 f_Stalls___init__ (aCons (eFld na 8 (eVar 2)) aNil))) sNil) (frc (sSeq (sAsg (gTp 2 (gsCons (gNm 3) (gsCons (gNm 4) gsNil))) (eMeth mt_safe_from_3 20 (eVar 2) (aCons (eLst (aCons (eVar 1) aNil)) aNil))) (frc (sRet (eMake 1 f_Rides___init__ (aCons (eVar 3) (aCons (eVar 4) aNil))))))))))
def c_forever_of : List LV → LH → Rs LV := frame (lBody 2 5 m_forever_of)
theorem q_forever_of_0 : tc_forever_of_0.all (isMe c_forever_of) = true := by decide +kernel
theorem q_forever_of_1 : tc_forever_of_1.all (isMe c_forever_of) = true := by decide +kernel
theorem q_forever_of_2 : tc_forever_of_2.all (isMe c_forever_of) = true := by decide +kernel
theorem q_forever_of_3 : tc_forever_of_3.all (isMe c_forever_of) = true := by decide +kernel
theorem q_forever_of_4 : tc_forever_of_4.all (isMe c_forever_of) = true := by decide +kernel
theorem q_forever_of_5 : tc_forever_of_5.all (isMe c_forever_of) = true := by decide +kernel
theorem q_forever_of_6 : tc_forever_of_6.all (isMe c_forever_of) = true := by decide +kernel
theorem q_forever_of_7 : tc_forever_of_7.all (isMe c_forever_of) = true := by decide +kernel
theorem q_forever_of_8 : tc_forever_of_8.all (isMe c_forever_of) = true := by decide +kernel
theorem q_forever_of_9 : tc_forever_of_9.all (isMe c_forever_of) = true := by decide +kernel
theorem q_forever_of_10 : tc_forever_of_10.all (isMe c_forever_of) = true := by decide +kernel
theorem q_forever_of_11 : tc_forever_of_11.all (isMe c_forever_of) = true := by decide +kernel
theorem q_forever_of_12 : tc_forever_of_12.all (isMe c_forever_of) = true := by decide +kernel
theorem q_forever_of_13 : tc_forever_of_13.all (isMe c_forever_of) = true := by decide +kernel
theorem q_forever_of_14 : tc_forever_of_14.all (isMe c_forever_of) = true := by decide +kernel
theorem q_forever_of_15 : tc_forever_of_15.all (isMe c_forever_of) = true := by decide +kernel
theorem q_forever_of_16 : tc_forever_of_16.all (isMe c_forever_of) = true := by decide +kernel
def tbl_forever_of : List Me := tc_forever_of_0 ++ tc_forever_of_1 ++ tc_forever_of_2 ++ tc_forever_of_3 ++ tc_forever_of_4 ++ tc_forever_of_5 ++ tc_forever_of_6 ++ tc_forever_of_7 ++ tc_forever_of_8 ++ tc_forever_of_9 ++ tc_forever_of_10 ++ tc_forever_of_11 ++ tc_forever_of_12 ++ tc_forever_of_13 ++ tc_forever_of_14 ++ tc_forever_of_15 ++ tc_forever_of_16
theorem tok_forever_of : (tbl_forever_of.all fun e => isMe c_forever_of e) = true := by
  unfold tbl_forever_of
  simp only [List.all_append, q_forever_of_0, q_forever_of_1, q_forever_of_2, q_forever_of_3, q_forever_of_4, q_forever_of_5, q_forever_of_6, q_forever_of_7, q_forever_of_8, q_forever_of_9, q_forever_of_10, q_forever_of_11, q_forever_of_12, q_forever_of_13, q_forever_of_14, q_forever_of_15, q_forever_of_16, Bool.and_self]
def f_forever_of : List LV → LH → Rs LV := frame (memo tbl_forever_of c_forever_of)
def m_are_rows : Ls := (sRet (eAnd (eIsi ai_tuple (eVar 0)) (eChain leV leV (eVar 1) (eB rLenL (aCons (eVar 0) aNil)) (eVar 2))))
def f_are_rows : List LV → LH → Rs LV := frame (lBody 3 3 m_are_rows)
def m_is_pair : Ls := (sSeq (sIf (tOrL (tNotL (tOf (eIsi ai_tuple (eVar 0)))) (tOrL (tOf (eOp neV2 (eB rLenL (aCons (eVar 0) aNil)) (eC (.int 2)))) (tNotL (tOf (eB rAllL (aCons (eLc (iVal (eVar 0)) (gNm 2) tYesL (eCall f_is_integer (aCons (eVar 2) (aCons (eC (.int 0)) (aCons (eOp subV (eVar 1) (eC (.int 1))) aNil)))) [2]) aNil)))))) (sRet (eC (.bl false))) sNil) (frc (sRet (eOp neV2 (eOp subI (eVar 0) (eC (.int 0))) (eOp subI (eVar 0) (eC (.int 1)))))))
def f_is_pair : List LV → LH → Rs LV := frame (lBody 2 3 m_is_pair)
def m_is_rising : Ls := (sRet (eB rAllL (aCons (eLc (iZp (aCons (eVar 0) (aCons (eSl (eVar 0) (oSome (eC (.int 1))) oNone) aNil))) (gTp 2 (gsCons (gNm 1) (gsCons (gNm 2) gsNil))) tYesL (eOp ltD (eVar 1) (eVar 2)) [1, 2]) aNil)))
def f_is_rising : List LV → LH → Rs LV := frame (lBody 1 3 m_is_rising)
def m_is_road : Ls := (sSeq (sIf (tOrL (tNotL (tOf (eIsi ai_tuple (eVar 0)))) (tOrL (tOf (eOp neV2 (eB rLenL (aCons (eVar 0) aNil)) (eC (.int 4)))) (tNotL (tOf (eB rAllL (aCons (eLc (iVal (eSl (eVar 0) oNone (oSome (eC (.int 2))))) (gNm 2) tYesL (eCall f_is_integer (aCons (eVar 2) (aCons (eC (.int 0)) (aCons (eVar 1) aNil)))) [2]) aNil)))))) (sRet (eC (.bl false))) sNil) (frc (sSeq (sIf (tNotL (tOf (eB rAllL (aCons (eLc (iVal (eSl (eVar 0) (oSome (eC (.int 2))) oNone)) (gNm 2) tYesL (eCall f_is_integer (aCons (eVar 2) (aCons (eC (.int 1)) (aCons (eC v_MAX_STEP) aNil)))) [2]) aNil)))) (sRet (eC (.bl false))) sNil) (frc (sRet (eChain ltD ltD (eOp subI (eVar 0) (eC (.int 0))) (eOp subI (eVar 0) (eC (.int 1))) (eVar 1)))))))
def f_is_road : List LV → LH → Rs LV := frame (lBody 2 3 m_is_road)
def m_Town___init__ : Ls := (sSeq (sIf (tNotL (tOf (eCall f_is_integer (aCons (eVar 1) (aCons (eC (.int 2)) (aCons (eC v_MAX_PLACES) aNil)))))) sBad sNil) (frc (sSeq (sIf (tOrL (tNotL (tOf (eCall f_are_rows (aCons (eVar 2) (aCons (eC (.int 1)) (aCons (eC v_MAX_ROADS) aNil)))))) (tNotL (tOf (eB rAllL (aCons (eLc (iVal (eVar 2)) (gNm 7) tYesL (eCall f_is_road (aCons (eVar 7) (aCons (eVar 1) aNil))) [7]) aNil))))) sBad sNil) (frc (sSeq (sIf (tNotL (tOf (eCall f_is_rising (aCons (eVar 2) aNil)))) sBad sNil) (frc (sSeq (sIf (tOrL (tNotL (tOf (eCall f_are_rows (aCons (eVar 3) (aCons (eC (.int 0)) (aCons (eVar 1) aNil)))))) (tNotL (tOf (eB rAllL (aCons (eLc (iVal (eVar 3)) (gNm 8) tYesL (eCall f_is_integer (aCons (eVar 8) (aCons (eC (.int 0)) (aCons (eOp subV (eVar 1) (eC (.int 1))) aNil)))) [8]) aNil))))) sBad sNil) (frc (sSeq (sIf (tNotL (tOf (eCall f_is_rising (aCons (eVar 3) aNil)))) sBad sNil) (frc (sSeq (sIf (tOrL (tNotL (tOf (eCall f_are_rows (aCons (eVar 4) (aCons (eC (.int 1)) (aCons (eC v_MAX_ORDERS) aNil)))))) (tNotL (tOf (eB rAllL (aCons (eLc (iVal (eVar 4)) (gNm 9) tYesL (eCall f_is_pair (aCons (eVar 9) (aCons (eVar 1) aNil))) [9]) aNil))))) sBad sNil) (frc (sSeq (sIf (tNotL (tOf (eCall f_is_rising (aCons (eVar 4) aNil)))) sBad sNil) (frc (sSeq (sIf (tNotL (tOf (eCall f_is_integer (aCons (eVar 5) (aCons (eC (.int 1)) (aCons (eC v_MAX_MINUTES) aNil)))))) sBad sNil) (frc (sSeq (sIf (tNotL (tOf (eCall f_is_integer (aCons (eVar 6) (aCons (eC (.int 1)) (aCons (eC v_MAX_BATTERY) aNil)))))) sBad sNil) (frc (sSeq (sFldL na 0 (eVar 0) (eVar 1)) (frc (sSeq (sFldL na 1 (eVar 0) (eVar 2)) (frc (sSeq (sFldL na 2 (eVar 0) (eVar 3)) (frc (sSeq (sFldL na 3 (eVar 0) (eVar 4)) (frc (sSeq (sFldL na 4 (eVar 0) (eVar 5)) (frc (sFldL na 5 (eVar 0) (eVar 6))))))))))))))))))))))))))))))
def f_Town___init__ : List LV → LH → Rs LV := frame (lBody 7 10 m_Town___init__)
def m_with_battery : Ls := (sRet (eMake 0 f_Town___init__ (aCons (eFld na 0 (eVar 0)) (aCons (eFld na 1 (eVar 0)) (aCons (eFld na 2 (eVar 0)) (aCons (eFld na 3 (eVar 0)) (aCons (eFld na 4 (eVar 0)) (aCons (eVar 1) aNil))))))))
def f_with_battery : List LV → LH → Rs LV := frame (lBody 2 2 m_with_battery)
def m_Battery___init__ : Ls := (sSeq (sFldL na 10 (eVar 0) (eVar 1)) (frc (sSeq (sFldL na 11 (eVar 0) (eVar 2)) (frc (sFldL na 12 (eVar 0) (eVar 3))))))
def f_Battery___init__ : List LV → LH → Rs LV := frame (lBody 4 4 m_Battery___init__)
def m_battery : Ls := (sSeq (sExp (eCall f_check_place (aCons (eVar 0) (aCons (eVar 1) aNil)))) (frc (sSeq (sAsg (gNm 2) (eC .non)) (frc (sSeq (sFor (iRg2 (aCons (eC (.int 1)) (aCons (eOp addV (eC v_MAX_BATTERY) (eC (.int 1))) aNil))) (gNm 3) (frc (sSeq (sAsg (gNm 4) (eCall f_forever_of (aCons (eCall f_with_battery (aCons (eVar 0) (aCons (eVar 3) aNil))) (aCons (eTup (aCons (eVar 1) (aCons (eVar 3) aNil))) aNil)))) (frc (sSeq (sIf (tOf (eIsi ai_Rides (eVar 4))) (sRet (eMake 4 f_Battery___init__ (aCons (eVar 3) (aCons (eVar 4) (aCons (eVar 2) aNil))))) sNil) (frc (sAsg (gNm 2) (eVar 4)))))))) (frc (sRet (eMake 4 f_Battery___init__ (aCons (eC .non) (aCons (eC .non) (aCons (eVar 2) aNil)))))))))))
def f_battery : List LV → LH → Rs LV := frame (lBody 2 5 m_battery)
def m_least_battery : Ls := (sRet (eFld na 10 (eCall f_battery (aCons (eVar 0) (aCons (eVar 1) aNil)))))
def f_least_battery : List LV → LH → Rs LV := frame (lBody 2 2 m_least_battery)
def m_does_carry : Ls := (sSeq (sAsg (gNm 2) (eLc (iVal (eVar 1)) (gTp 2 (gsCons (gNm 3) (gsCons (gNm 4) gsNil))) tYesL (eVar 3) [3, 4])) (frc (sRet (eAnd (eOp inV (eOp subI (eVar 0) (eC (.int 0))) (eVar 2)) (eOp inV (eOp subI (eVar 0) (eC (.int 1))) (eSl (eVar 2) (oSome (eOp addV (eBm 5 lIndex (eVar 2) (aCons (eOp subI (eVar 0) (eC (.int 0))) aNil)) (eC (.int 1)))) oNone))))))
def f_does_carry : List LV → LH → Rs LV := frame (lBody 2 5 m_does_carry)
def m_is_step : Ls := (sSeq (sIf (tOrL (tNotL (tOf (eIsi ai_tuple (eVar 1)))) (tOrL (tOf (eOp notInV (eB rLenL (aCons (eVar 1) aNil)) (eTup (aCons (eC (.int 1)) (aCons (eC (.int 2)) aNil))))) (tNotL (tOf (eIsi ai_str (eOp subI (eVar 1) (eC (.int 0)))))))) (sRet (eC (.bl false))) sNil) (frc (sRet (eIf (tOf (eOp eqV2 (eB rLenL (aCons (eVar 1) aNil)) (eC (.int 1)))) (eOp eqV2 (eVar 1) (eC v_CHARGE)) (eAnd (eOp eqV2 (eOp subI (eVar 1) (eC (.int 0))) (eC v_RIDE)) (eCall f_is_integer (aCons (eOp subI (eVar 1) (eC (.int 1))) (aCons (eC (.int 0)) (aCons (eOp subV (eB rLenL (aCons (eFld na 1 (eVar 0)) aNil)) (eC (.int 1))) aNil)))))))))
def f_is_step : List LV → LH → Rs LV := frame (lBody 2 2 m_is_step)
def m_step_at : Ls := (sSeq (sIf (tNotL (tOf (eCall f_is_step (aCons (eVar 0) (aCons (eVar 2) aNil))))) (sRet (eC .non)) sNil) (frc (sSeq (sAsg (gNm 3) (eLc (iVal (eCall f_steps_at (aCons (eVar 0) (aCons (eVar 1) aNil)))) (gTp 3 (gsCons (gNm 4) (gsCons (gNm 5) (gsCons (gNm 6) gsNil)))) (tOf (eOp eqV2 (eVar 4) (eVar 2))) (eTup (aCons (eVar 5) (aCons (eVar 6) aNil))) [4, 5, 6])) (frc (sRet (eIf (tOf (eOp neV2 (eVar 3) (eLst aNil))) (eOp subI (eVar 3) (eC (.int 0))) (eC .non)))))))
def f_step_at : List LV → LH → Rs LV := frame (lBody 3 7 m_step_at)
def m_walked : Ls := (sSeq (sPar 3 4 (aCons (eLst (aCons (eVar 1) aNil)) (aCons (eC (.int 0)) aNil))) (frc (sSeq (sFor (iEn (aCons (eVar 2) aNil)) (gTp 2 (gsCons (gNm 5) (gsCons (gNm 6) gsNil))) (frc (sSeq (sAsg (gNm 7) (eCall f_step_at (aCons (eVar 0) (aCons (eOp subI (eVar 3) (eNeg (eC (.int 1)))) (aCons (eVar 6) aNil))))) (frc (sSeq (sIf (tOrL (tOf (eOp isV2 (eVar 7) (eC .non))) (tOf (eOp gtV (eOp addV (eVar 4) (eOp subI (eVar 7) (eC (.int 1)))) (eFld na 4 (eVar 0))))) (sRet (eTup (aCons (eVar 3) (aCons (eVar 4) (aCons (eVar 5) aNil))))) sNil) (frc (sSeq (sExp (eBm 5 lAppend (eVar 3) (aCons (eOp subI (eVar 7) (eC (.int 0))) aNil))) (frc (sAug 4 (eOp subI (eVar 7) (eC (.int 1)))))))))))) (frc (sRet (eTup (aCons (eVar 3) (aCons (eVar 4) (aCons (eC .non) aNil)))))))))
def f_walked : List LV → LH → Rs LV := frame (lBody 3 8 m_walked)
def m_end_of : Ls := (sSeq (sAsg (gTp 3 (gsCons (gNm 4) (gsCons (gNm 5) (gsCons (gNm 6) gsNil)))) (eCall f_walked (aCons (eVar 0) (aCons (eVar 1) (aCons (eVar 3) aNil))))) (frc (sRet (eIf (tAndL (tOf (eOp isV2 (eVar 6) (eC .non))) (tOf (eCall f_does_carry (aCons (eVar 2) (aCons (eVar 4) aNil))))) (eOp subI (eVar 4) (eNeg (eC (.int 1)))) (eC .non)))))
def f_end_of : List LV → LH → Rs LV := frame (lBody 4 7 m_end_of)
def m_are_closed : Ls := (sSeq (sAsg (gNm 3) (eDc (iVal (eVar 1)) (gNm 5) tYesL (eVar 5) (eC (.bl true)) [5])) (frc (sSeq (sAsg (gNm 4) (eLc2 (iVal (eVar 3)) (gNm 5) tYesL (iVal (eFld na 3 (eVar 0))) (gNm 6) tYesL (eTup (aCons (eVar 5) (aCons (eVar 6) aNil))) [5, 6] [6])) (frc (sSeq (sIf (tOrL (tOf (eOp neV2 (eB rLenL (aCons (eVar 4) aNil)) (eB rLenL (aCons (eVar 2) aNil)))) (tNotL (tOf (eB rAllL (aCons (eLc (iVal (eVar 4)) (gNm 7) tYesL (eOp inV (eVar 7) (eVar 2)) [7]) aNil))))) (sRet (eC (.bl false))) sNil) (frc (sRet (eB rAllL (aCons (eLc (iVal (eVar 4)) (gNm 7) tYesL (eOp inV (eCall f_end_of (aCons (eVar 0) (aCons (eOp subI (eVar 7) (eC (.int 0))) (aCons (eOp subI (eVar 7) (eC (.int 1))) (aCons (eOp subI (eVar 2) (eVar 7)) aNil))))) (eVar 3)) [7]) aNil)))))))))
def f_are_closed : List LV → LH → Rs LV := frame (lBody 3 8 m_are_closed)
def m_is_state : Ls := (sSeq (sIf (tOrL (tNotL (tOf (eIsi ai_tuple (eVar 1)))) (tOrL (tOf (eOp neV2 (eB rLenL (aCons (eVar 1) aNil)) (eC (.int 2)))) (tNotL (tOf (eCall f_is_integer (aCons (eOp subI (eVar 1) (eC (.int 0))) (aCons (eC (.int 0)) (aCons (eOp subV (eFld na 0 (eVar 0)) (eC (.int 1))) aNil)))))))) (sRet (eC (.bl false))) sNil) (frc (sRet (eCall f_is_integer (aCons (eOp subI (eVar 1) (eC (.int 1))) (aCons (eC (.int 0)) (aCons (eFld na 5 (eVar 0)) aNil)))))))
def f_is_state : List LV → LH → Rs LV := frame (lBody 2 2 m_is_state)
def m_check_state : Ls := (sSeq (sExp (eCall f_check_town (aCons (eVar 0) aNil))) (frc (sIf (tNotL (tOf (eCall f_is_state (aCons (eVar 0) (aCons (eVar 1) aNil))))) sBad sNil)))
def f_check_state : List LV → LH → Rs LV := frame (lBody 2 2 m_check_state)
def m_Rides_shows : Ls := (sSeq (sExp (eCall f_check_state (aCons (eVar 1) (aCons (eVar 2) aNil)))) (frc (sRet (eAnd (eOp inV (eVar 2) (eFld na 6 (eVar 0))) (eCall f_are_closed (aCons (eVar 1) (aCons (eFld na 6 (eVar 0)) (aCons (eFld na 7 (eVar 0)) aNil))))))))
def f_Rides_shows : List LV → LH → Rs LV := frame (lBody 3 3 m_Rides_shows)
def m_is_plan : Ls := (sSeq (sFor (iDp (eVar 1)) (gTp 2 (gsCons (gNm 2) (gsCons (gTp 2 (gsCons (gNm 4) (gsCons (gNm 5) gsNil))) gsNil))) (frc (sSeq (sIf (tOrL (tOf (eOp ltD (eVar 4) (eC (.int 0)))) (tOf (eOp notInV (eVar 5) (eFld na 3 (eVar 0))))) (sRet (eC (.bl false))) sNil) (frc (sFor (iVal (eCall f_courses_of (aCons (eVar 0) (aCons (eVar 2) (aCons (eVar 5) aNil))))) (gNm 3) (frc (sIf (tOrL (tOf (eOp notInV (eVar 3) (eVar 1))) (tOf (eOp geV (eOp subI (eOp subI (eVar 1) (eVar 3)) (eC (.int 0))) (eVar 4)))) (sRet (eC (.bl false))) sNil))))))) (frc (sRet (eC (.bl true)))))
def f_is_plan : List LV → LH → Rs LV := frame (lBody 2 6 m_is_plan)
def m_Stalls_shows : Ls := (sSeq (sExp (eCall f_check_state (aCons (eVar 1) (aCons (eVar 2) aNil)))) (frc (sRet (eAnd (eOp inV (eVar 2) (eFld na 8 (eVar 0))) (eCall f_is_plan (aCons (eVar 1) (aCons (eFld na 8 (eVar 0)) aNil)))))))
def f_Stalls_shows : List LV → LH → Rs LV := frame (lBody 3 3 m_Stalls_shows)
def m_Soon_holds : Ls := (sSeq (sAsg (gNm 3) (eOp subI (eFld na 14 (eVar 0)) (eVar 2))) (frc (sSeq (sIf (tOf (eOp leV (eVar 3) (eC (.int 0)))) (sRet (eC (.bl true))) sNil) (frc (sSeq (sFor (iVal (eFld na 3 (eVar 1))) (gNm 4) (frc (sSeq (sAsg (gNm 5) (eBm 6 dGet (eFld na 7 (eVar 0)) (aCons (eTup (aCons (eVar 2) (aCons (eVar 4) aNil))) (aCons (eC .non) aNil)))) (frc (sSeq (sAsg (gNm 6) (eIf (tOf (eOp isV2 (eVar 5) (eC .non))) (eC .non) (eCall f_end_of (aCons (eVar 1) (aCons (eVar 2) (aCons (eVar 4) (aCons (eVar 5) aNil))))))) (frc (sIf (tOrL (tOf (eOp isV2 (eVar 6) (eC .non))) (tAndL (tOf (eOp gtV (eVar 3) (eC (.int 1)))) (tOrL (tOf (eOp notInV (eVar 6) (eFld na 14 (eVar 0)))) (tOf (eOp ltD (eOp subI (eFld na 14 (eVar 0)) (eVar 6)) (eOp subV (eVar 3) (eC (.int 1)))))))) (sRet (eC (.bl false))) sNil))))))) (frc (sRet (eC (.bl true)))))))))
def f_Soon_holds : List LV → LH → Rs LV := frame (lBody 3 7 m_Soon_holds)
def mt_holds_6 : MT := fun c => match c with
  | 6 => some f_Soon_holds
  | _ => none
def m_Soon_shows : Ls := (sSeq (sExp (eCall f_check_state (aCons (eVar 1) (aCons (eVar 2) aNil)))) (frc (sSeq (sIf (tOrL (tOf (eOp notInV (eVar 2) (eFld na 8 (eVar 0)))) (tOrL (tOf (eOp gtV (eOp subI (eOp subI (eFld na 8 (eVar 0)) (eVar 2)) (eC (.int 0))) (eOp subV (eFld na 10 (eVar 0)) (eC (.int 1))))) (tNotL (tOf (eCall f_is_plan (aCons (eVar 1) (aCons (eFld na 8 (eVar 0)) aNil))))))) (sRet (eC (.bl false))) sNil) (frc (sSeq (sIf (tOrL (tOf (eOp notInV (eVar 2) (eFld na 14 (eVar 0)))) (tOf (eOp ltD (eOp subI (eFld na 14 (eVar 0)) (eVar 2)) (eOp subV (eFld na 10 (eVar 0)) (eC (.int 1)))))) (sRet (eC (.bl false))) sNil) (frc (sRet (eB rAllL (aCons (eLc (iVal (eFld na 14 (eVar 0))) (gNm 3) tYesL (eMeth mt_holds_6 22 (eVar 0) (aCons (eVar 1) (aCons (eVar 3) aNil))) [3]) aNil)))))))))
def f_Soon_shows : List LV → LH → Rs LV := frame (lBody 3 4 m_Soon_shows)
def mt_shows_1_2_6 : MT := fun c => match c with
  | 1 => some f_Rides_shows
  | 2 => some f_Stalls_shows
  | 6 => some f_Soon_shows
  | _ => none
def m_Battery_does_stall : Ls := (sSeq (sIf (tNotL (tOf (eIsi ai_Stalls (eFld na 12 (eVar 0))))) (sRet (eC (.bl false))) sNil) (frc (sRet (eMeth mt_shows_1_2_6 18 (eFld na 12 (eVar 0)) (aCons (eCall f_with_battery (aCons (eVar 1) (aCons (eVar 3) aNil))) (aCons (eTup (aCons (eVar 2) (aCons (eVar 3) aNil))) aNil))))))
def f_Battery_does_stall : List LV → LH → Rs LV := frame (lBody 4 4 m_Battery_does_stall)
def mt_does_stall_4 : MT := fun c => match c with
  | 4 => some f_Battery_does_stall
  | _ => none
def m_Battery_shows : Ls := (sSeq (sExp (eCall f_check_place (aCons (eVar 1) (aCons (eVar 2) aNil)))) (frc (sSeq (sIf (tOf (eOp isV2 (eFld na 10 (eVar 0)) (eC .non))) (sRet (eAnd (eOp isV2 (eFld na 11 (eVar 0)) (eC .non)) (eMeth mt_does_stall_4 21 (eVar 0) (aCons (eVar 1) (aCons (eVar 2) (aCons (eC v_MAX_BATTERY) aNil)))))) sNil) (frc (sSeq (sIf (tOrL (tNotL (tOf (eCall f_is_integer (aCons (eFld na 10 (eVar 0)) (aCons (eC (.int 1)) (aCons (eC v_MAX_BATTERY) aNil)))))) (tNotL (tOf (eIsi ai_Rides (eFld na 11 (eVar 0)))))) (sRet (eC (.bl false))) sNil) (frc (sSeq (sIf (tNotL (tOf (eMeth mt_shows_1_2_6 18 (eFld na 11 (eVar 0)) (aCons (eCall f_with_battery (aCons (eVar 1) (aCons (eFld na 10 (eVar 0)) aNil))) (aCons (eTup (aCons (eVar 2) (aCons (eFld na 10 (eVar 0)) aNil))) aNil))))) (sRet (eC (.bl false))) sNil) (frc (sSeq (sIf (tOf (eOp eqV2 (eFld na 10 (eVar 0)) (eC (.int 1)))) (sRet (eOp isV2 (eFld na 12 (eVar 0)) (eC .non))) sNil) (frc (sRet (eMeth mt_does_stall_4 21 (eVar 0) (aCons (eVar 1) (aCons (eVar 2) (aCons (eOp subV (eFld na 10 (eVar 0)) (eC (.int 1))) aNil)))))))))))))))
def f_Battery_shows : List LV → LH → Rs LV := frame (lBody 3 3 m_Battery_shows)
def mt_shows_1_2_4_6 : MT := fun c => match c with
  | 1 => some f_Rides_shows
  | 2 => some f_Stalls_shows
  | 4 => some f_Battery_shows
  | 6 => some f_Soon_shows
  | _ => none
def m__law_batteries_right : Ls := (sSeq (sAsg (gNm 1) (eMake 0 f_Town___init__ (aCons (eC (.int 2)) (aCons (eTup (aCons (eTup (aCons (eC (.int 0)) (aCons (eC (.int 1)) (aCons (eC (.int 1)) (aCons (eC (.int 1)) aNil))))) aNil)) (aCons (eTup (aCons (eC (.int 0)) (aCons (eC (.int 1)) aNil))) (aCons (eTup (aCons (eTup (aCons (eC (.int 0)) (aCons (eC (.int 1)) aNil))) aNil)) (aCons (eC (.int 4)) (aCons (eC (.int 5)) aNil)))))))) (frc (sSeq (sAsg (gNm 2) (eMake 0 f_Town___init__ (aCons (eC (.int 2)) (aCons (eTup (aCons (eTup (aCons (eC (.int 0)) (aCons (eC (.int 1)) (aCons (eC (.int 1)) (aCons (eC (.int 1)) aNil))))) aNil)) (aCons (eTup (aCons (eC (.int 0)) (aCons (eC (.int 1)) aNil))) (aCons (eTup (aCons (eTup (aCons (eC (.int 0)) (aCons (eC (.int 1)) aNil))) aNil)) (aCons (eC (.int 4)) (aCons (eC (.int 1)) aNil)))))))) (frc (sSeq (sAsg (gNm 3) (eTup (aCons (eTup (aCons (eC (.str s_1)) (aCons (eC (.int 0)) aNil))) (aCons (eTup (aCons (eC (.str s_0)) aNil)) (aCons (eTup (aCons (eC (.str s_1)) (aCons (eC (.int 0)) aNil))) (aCons (eTup (aCons (eC (.str s_0)) aNil)) aNil)))))) (frc (sSeq (sAsg (gNm 4) (eMake 1 f_Rides___init__ (aCons (eLst (aCons (eTup (aCons (eC (.int 0)) (aCons (eC (.int 1)) aNil))) aNil)) (aCons (eB rDictL (aCons (eLst (aCons (eTup (aCons (eTup (aCons (eTup (aCons (eC (.int 0)) (aCons (eC (.int 1)) aNil))) (aCons (eTup (aCons (eC (.int 0)) (aCons (eC (.int 1)) aNil))) aNil))) (aCons (eVar 3) aNil))) aNil)) aNil)) aNil)))) (frc (sSeq (sIf (tOrL (tOf (eOp neV2 (eCall f_least_battery (aCons (eVar 1) (aCons (eC (.int 0)) aNil))) (eC (.int 1)))) (tOf (eOp isNotV2 (eMeth mt_shows_1_2_4_6 18 (eVar 4) (aCons (eVar 2) (aCons (eTup (aCons (eC (.int 0)) (aCons (eC (.int 1)) aNil))) aNil))) (eC (.bl true))))) (sRet (eC (.bl false))) sNil) (frc (sSeq (sIf (tOrL (tOf (eOp isNotV2 (eMeth mt_shows_1_2_4_6 18 (eMake 4 f_Battery___init__ (aCons (eC (.int 1)) (aCons (eVar 4) (aCons (eC .non) aNil)))) (aCons (eVar 1) (aCons (eC (.int 0)) aNil))) (eC (.bl true)))) (tOf (eMeth mt_shows_1_2_4_6 18 (eMake 4 f_Battery___init__ (aCons (eC (.int 1)) (aCons (eVar 4) (aCons (eMake 2 f_Stalls___init__ (aCons eDnew aNil)) aNil)))) (aCons (eVar 1) (aCons (eC (.int 0)) aNil))))) (sRet (eC (.bl false))) sNil) (frc (sSeq (sAsg (gNm 5) (eCall f_battery (aCons (eVar 0) (aCons (eC (.int 0)) aNil)))) (frc (sSeq (sIf (tOf (eOp isNotV2 (eMeth mt_shows_1_2_4_6 18 (eMake 4 f_Battery___init__ (aCons (eC .non) (aCons (eC .non) (aCons (eFld na 12 (eVar 5)) aNil)))) (aCons (eVar 0) (aCons (eC (.int 0)) aNil))) (eC (.bl true)))) (sRet (eC (.bl false))) sNil) (frc (sSeq (sIf (tOf (eMeth mt_shows_1_2_4_6 18 (eMake 4 f_Battery___init__ (aCons (eC .non) (aCons (eMake 1 f_Rides___init__ (aCons (eLst aNil) (aCons eDnew aNil))) (aCons (eFld na 12 (eVar 5)) aNil)))) (aCons (eVar 0) (aCons (eC (.int 0)) aNil)))) (sRet (eC (.bl false))) sNil) (frc (sRet (eNot (eMeth mt_shows_1_2_4_6 18 (eMake 4 f_Battery___init__ (aCons (eC (.int 8)) (aCons (eVar 4) (aCons (eC .non) aNil)))) (aCons (eVar 0) (aCons (eC (.int 0)) aNil)))))))))))))))))))))))
def c__law_batteries_right : List LV → LH → Rs LV := frame (lBody 1 6 m__law_batteries_right)
theorem q__law_batteries_right_0 : tc__law_batteries_right_0.all (isMe c__law_batteries_right) = true := by decide +kernel
def tbl__law_batteries_right : List Me := tc__law_batteries_right_0
theorem tok__law_batteries_right : (tbl__law_batteries_right.all fun e => isMe c__law_batteries_right e) = true := by
  unfold tbl__law_batteries_right
  simp only [List.all_append, q__law_batteries_right_0, Bool.and_self]
def f__law_batteries_right : List LV → LH → Rs LV := frame (memo tbl__law_batteries_right c__law_batteries_right)
def m_check_order : Ls := (sIf (tOrL (tNotL (tOf (eCall f_is_pair (aCons (eVar 1) (aCons (eFld na 0 (eVar 0)) aNil))))) (tOf (eOp notInV (eVar 1) (eFld na 3 (eVar 0))))) sBad sNil)
def f_check_order : List LV → LH → Rs LV := frame (lBody 2 2 m_check_order)
def m_course_of : Ls := (sSeq (sIf (tNotL (tOf (eIsi ai_list_tuple (eVar 2)))) sBad sNil) (frc (sSeq (sAsg (gTp 3 (gsCons (gNm 3) (gsCons (gNm 4) (gsCons (gNm 5) gsNil)))) (eCall f_walked (aCons (eVar 0) (aCons (eVar 1) (aCons (eVar 2) aNil))))) (frc (sSeq (sIf (tOf (eOp isNotV2 (eVar 5) (eC .non))) sBad sNil) (frc (sRet (eTup (aCons (eVar 3) (aCons (eVar 4) aNil))))))))))
def f_course_of : List LV → LH → Rs LV := frame (lBody 3 6 m_course_of)
def m_carries : Ls := (sSeq (sExp (eCall f_check_state (aCons (eVar 0) (aCons (eVar 1) aNil)))) (frc (sSeq (sExp (eCall f_check_order (aCons (eVar 0) (aCons (eVar 2) aNil)))) (frc (sRet (eCall f_does_carry (aCons (eVar 2) (aCons (eOp subI (eCall f_course_of (aCons (eVar 0) (aCons (eVar 1) (aCons (eVar 3) aNil)))) (eC (.int 0))) aNil))))))))
def f_carries : List LV → LH → Rs LV := frame (lBody 4 4 m_carries)
def m_course_to : Ls := (sSeq (sExp (eCall f_check_state (aCons (eVar 0) (aCons (eVar 1) aNil)))) (frc (sSeq (sExp (eCall f_check_order (aCons (eVar 0) (aCons (eVar 2) aNil)))) (frc (sSeq (sIf (tNotL (tOf (eCall f_is_state (aCons (eVar 0) (aCons (eVar 3) aNil))))) sBad sNil) (frc (sRet (eBm 6 dGet (eCall f_courses_of (aCons (eVar 0) (aCons (eVar 1) (aCons (eVar 2) aNil)))) (aCons (eVar 3) (aCons (eC .non) aNil))))))))))
def f_course_to : List LV → LH → Rs LV := frame (lBody 4 4 m_course_to)
def m_ends : Ls := (sSeq (sExp (eCall f_check_state (aCons (eVar 0) (aCons (eVar 1) aNil)))) (frc (sSeq (sExp (eCall f_check_order (aCons (eVar 0) (aCons (eVar 2) aNil)))) (frc (sRet (eB rListL (aCons (eCall f_courses_of (aCons (eVar 0) (aCons (eVar 1) (aCons (eVar 2) aNil)))) aNil)))))))
def f_ends : List LV → LH → Rs LV := frame (lBody 3 3 m_ends)
def m_check_course : Ls := (sSeq (sExp (eCall f_check_state (aCons (eVar 0) (aCons (eVar 1) aNil)))) (frc (sRet (eCall f_course_of (aCons (eVar 0) (aCons (eVar 1) (aCons (eVar 2) aNil)))))))
def f_check_course : List LV → LH → Rs LV := frame (lBody 3 3 m_check_course)
def m_minutes : Ls := (sRet (eOp subI (eCall f_check_course (aCons (eVar 0) (aCons (eVar 1) (aCons (eVar 2) aNil)))) (eC (.int 1))))
def f_minutes : List LV → LH → Rs LV := frame (lBody 3 3 m_minutes)
def m_walk : Ls := (sRet (eOp subI (eCall f_check_course (aCons (eVar 0) (aCons (eVar 1) (aCons (eVar 2) aNil)))) (eC (.int 0))))
def f_walk : List LV → LH → Rs LV := frame (lBody 3 3 m_walk)
def m__law_courses_right : Ls := (sSeq (sAsg (gNm 2) (eTup (aCons (eTup (aCons (eC (.str s_1)) (aCons (eC (.int 1)) aNil))) (aCons (eTup (aCons (eC (.str s_0)) aNil)) (aCons (eTup (aCons (eC (.str s_1)) (aCons (eC (.int 2)) aNil))) aNil))))) (frc (sSeq (sIf (tOf (eOp neV2 (eCall f_walk (aCons (eVar 1) (aCons (eTup (aCons (eC (.int 0)) (aCons (eC (.int 2)) aNil))) (aCons (eVar 2) aNil)))) (eLst (aCons (eTup (aCons (eC (.int 0)) (aCons (eC (.int 2)) aNil))) (aCons (eTup (aCons (eC (.int 1)) (aCons (eC (.int 1)) aNil))) (aCons (eTup (aCons (eC (.int 1)) (aCons (eC (.int 2)) aNil))) (aCons (eTup (aCons (eC (.int 2)) (aCons (eC (.int 1)) aNil))) aNil))))))) (sRet (eC (.bl false))) sNil) (frc (sSeq (sIf (tOf (eOp neV2 (eCall f_minutes (aCons (eVar 1) (aCons (eTup (aCons (eC (.int 0)) (aCons (eC (.int 2)) aNil))) (aCons (eVar 2) aNil)))) (eC (.int 4)))) (sRet (eC (.bl false))) sNil) (frc (sSeq (sIf (tOrL (tNotL (tOf (eCall f_carries (aCons (eVar 1) (aCons (eTup (aCons (eC (.int 0)) (aCons (eC (.int 2)) aNil))) (aCons (eTup (aCons (eC (.int 0)) (aCons (eC (.int 2)) aNil))) (aCons (eVar 2) aNil))))))) (tOf (eCall f_carries (aCons (eVar 1) (aCons (eTup (aCons (eC (.int 0)) (aCons (eC (.int 2)) aNil))) (aCons (eTup (aCons (eC (.int 2)) (aCons (eC (.int 0)) aNil))) (aCons (eVar 2) aNil))))))) (sRet (eC (.bl false))) sNil) (frc (sSeq (sIf (tOf (eCall f_carries (aCons (eVar 1) (aCons (eTup (aCons (eC (.int 1)) (aCons (eC (.int 2)) aNil))) (aCons (eTup (aCons (eC (.int 0)) (aCons (eC (.int 2)) aNil))) (aCons (eTup (aCons (eTup (aCons (eC (.str s_1)) (aCons (eC (.int 2)) aNil))) aNil)) aNil)))))) (sRet (eC (.bl false))) sNil) (frc (sSeq (sIf (tNotL (tOf (eCall f_carries (aCons (eVar 1) (aCons (eTup (aCons (eC (.int 2)) (aCons (eC (.int 3)) aNil))) (aCons (eTup (aCons (eC (.int 2)) (aCons (eC (.int 0)) aNil))) (aCons (eTup (aCons (eTup (aCons (eC (.str s_1)) (aCons (eC (.int 2)) aNil))) (aCons (eTup (aCons (eC (.str s_1)) (aCons (eC (.int 0)) aNil))) aNil))) aNil))))))) (sRet (eC (.bl false))) sNil) (frc (sSeq (sIf (tOf (eOp neV2 (eCall f_ends (aCons (eVar 1) (aCons (eTup (aCons (eC (.int 0)) (aCons (eC (.int 2)) aNil))) (aCons (eTup (aCons (eC (.int 0)) (aCons (eC (.int 2)) aNil))) aNil)))) (eLst (aCons (eTup (aCons (eC (.int 1)) (aCons (eC (.int 0)) aNil))) (aCons (eTup (aCons (eC (.int 2)) (aCons (eC (.int 0)) aNil))) (aCons (eTup (aCons (eC (.int 2)) (aCons (eC (.int 1)) aNil))) (aCons (eTup (aCons (eC (.int 2)) (aCons (eC (.int 2)) aNil))) aNil))))))) (sRet (eC (.bl false))) sNil) (frc (sSeq (sIf (tOf (eOp neV2 (eCall f_ends (aCons (eVar 1) (aCons (eTup (aCons (eC (.int 0)) (aCons (eC (.int 1)) aNil))) (aCons (eTup (aCons (eC (.int 2)) (aCons (eC (.int 0)) aNil))) aNil)))) (eLst aNil))) (sRet (eC (.bl false))) sNil) (frc (sSeq (sIf (tOf (eOp neV2 (eCall f_ends (aCons (eVar 0) (aCons (eTup (aCons (eC (.int 0)) (aCons (eC (.int 0)) aNil))) (aCons (eTup (aCons (eC (.int 0)) (aCons (eC (.int 1)) aNil))) aNil)))) (eLst (aCons (eTup (aCons (eC (.int 0)) (aCons (eC (.int 0)) aNil))) (aCons (eTup (aCons (eC (.int 1)) (aCons (eC (.int 0)) aNil))) (aCons (eTup (aCons (eC (.int 1)) (aCons (eC (.int 1)) aNil))) (aCons (eTup (aCons (eC (.int 1)) (aCons (eC (.int 2)) aNil))) aNil))))))) (sRet (eC (.bl false))) sNil) (frc (sSeq (sIf (tOf (eOp neV2 (eCall f_ends (aCons (eVar 0) (aCons (eTup (aCons (eC (.int 0)) (aCons (eC (.int 0)) aNil))) (aCons (eTup (aCons (eC (.int 1)) (aCons (eC (.int 0)) aNil))) aNil)))) (eLst (aCons (eTup (aCons (eC (.int 0)) (aCons (eC (.int 0)) aNil))) aNil)))) (sRet (eC (.bl false))) sNil) (frc (sSeq (sIf (tOf (eOp neV2 (eCall f_ends (aCons (eVar 0) (aCons (eTup (aCons (eC (.int 1)) (aCons (eC (.int 2)) aNil))) (aCons (eTup (aCons (eC (.int 1)) (aCons (eC (.int 0)) aNil))) aNil)))) (eLst (aCons (eTup (aCons (eC (.int 0)) (aCons (eC (.int 0)) aNil))) (aCons (eTup (aCons (eC (.int 0)) (aCons (eC (.int 1)) aNil))) (aCons (eTup (aCons (eC (.int 0)) (aCons (eC (.int 2)) aNil))) (aCons (eTup (aCons (eC (.int 0)) (aCons (eC (.int 3)) aNil))) (aCons (eTup (aCons (eC (.int 1)) (aCons (eC (.int 0)) aNil))) (aCons (eTup (aCons (eC (.int 1)) (aCons (eC (.int 1)) aNil))) (aCons (eTup (aCons (eC (.int 1)) (aCons (eC (.int 2)) aNil))) aNil)))))))))) (sRet (eC (.bl false))) sNil) (frc (sSeq (sIf (tOf (eOp neV2 (eCall f_course_to (aCons (eVar 0) (aCons (eTup (aCons (eC (.int 0)) (aCons (eC (.int 0)) aNil))) (aCons (eTup (aCons (eC (.int 1)) (aCons (eC (.int 0)) aNil))) (aCons (eTup (aCons (eC (.int 0)) (aCons (eC (.int 0)) aNil))) aNil))))) (eTup (aCons (eTup (aCons (eC (.str s_0)) aNil)) (aCons (eTup (aCons (eC (.str s_0)) aNil)) (aCons (eTup (aCons (eC (.str s_1)) (aCons (eC (.int 0)) aNil))) (aCons (eTup (aCons (eC (.str s_1)) (aCons (eC (.int 0)) aNil))) aNil))))))) (sRet (eC (.bl false))) sNil) (frc (sRet (eAnd (eOp isV2 (eCall f_course_to (aCons (eVar 0) (aCons (eTup (aCons (eC (.int 0)) (aCons (eC (.int 0)) aNil))) (aCons (eTup (aCons (eC (.int 1)) (aCons (eC (.int 0)) aNil))) (aCons (eTup (aCons (eC (.int 0)) (aCons (eC (.int 1)) aNil))) aNil))))) (eC .non)) (eOp eqV2 (eCall f_walk (aCons (eVar 0) (aCons (eTup (aCons (eC (.int 1)) (aCons (eC (.int 0)) aNil))) (aCons (eLst aNil) aNil)))) (eLst (aCons (eTup (aCons (eC (.int 1)) (aCons (eC (.int 0)) aNil))) aNil)))))))))))))))))))))))))))))
def c__law_courses_right : List LV → LH → Rs LV := frame (lBody 2 3 m__law_courses_right)
theorem q__law_courses_right_0 : tc__law_courses_right_0.all (isMe c__law_courses_right) = true := by decide +kernel
def tbl__law_courses_right : List Me := tc__law_courses_right_0
theorem tok__law_courses_right : (tbl__law_courses_right.all fun e => isMe c__law_courses_right e) = true := by
  unfold tbl__law_courses_right
  simp only [List.all_append, q__law_courses_right_0, Bool.and_self]
def f__law_courses_right : List LV → LH → Rs LV := frame (memo tbl__law_courses_right c__law_courses_right)
def m_forever : Ls := (sSeq (sExp (eCall f_check_state (aCons (eVar 0) (aCons (eVar 1) aNil)))) (frc (sRet (eCall f_forever_of (aCons (eVar 0) (aCons (eVar 1) aNil))))))
def f_forever : List LV → LH → Rs LV := frame (lBody 2 2 m_forever)
def m_can_go : Ls := (sRet (eIsi ai_Rides (eCall f_forever (aCons (eVar 0) (aCons (eVar 1) aNil)))))
def f_can_go : List LV → LH → Rs LV := frame (lBody 2 2 m_can_go)
def m_charges_in : Ls := (sSeq (sAsg (gNm 2) eDnew) (frc (sSeq (sFor (iRg1 (aCons (eFld na 0 (eVar 0)) aNil)) (gNm 3) (frc (sSeq (sAsg (gNm 4) (eLc (iRg1 (aCons (eOp addV (eFld na 5 (eVar 0)) (eC (.int 1))) aNil)) (gNm 5) (tOf (eOp notInV (eTup (aCons (eVar 3) (aCons (eVar 5) aNil))) (eFld na 8 (eVar 1)))) (eVar 5) [5])) (frc (sAsg (gSb (eVar 2) (eVar 3)) (eIf (tOf (eOp neV2 (eVar 4) (eLst aNil))) (eOp subI (eVar 4) (eC (.int 0))) (eC .non))))))) (frc (sRet (eVar 2))))))
def f_charges_in : List LV → LH → Rs LV := frame (lBody 2 6 m_charges_in)
def m_least_charges : Ls := (sSeq (sExp (eCall f_check_town (aCons (eVar 0) aNil))) (frc (sRet (eCall f_charges_in (aCons (eVar 0) (aCons (eMake 3 f_Game___init__ (aCons (eVar 0) aNil)) aNil))))))
def f_least_charges : List LV → LH → Rs LV := frame (lBody 1 1 m_least_charges)
def m_Needs___init__ : Ls := (sSeq (sFldL na 13 (eVar 0) (eDc (iDp (eVar 1)) (gTp 2 (gsCons (gNm 5) (gsCons (gNm 6) gsNil))) tYesL (eVar 5) (eVar 6) [5, 6])) (frc (sSeq (sFldL na 6 (eVar 0) (eB rListL (aCons (eVar 2) aNil))) (frc (sSeq (sFldL na 7 (eVar 0) (eDc (iDp (eVar 3)) (gTp 2 (gsCons (gNm 7) (gsCons (gNm 8) gsNil))) tYesL (eVar 7) (eVar 8) [7, 8])) (frc (sFldL na 8 (eVar 0) (eDc (iDp (eVar 4)) (gTp 2 (gsCons (gNm 9) (gsCons (gNm 10) gsNil))) tYesL (eVar 9) (eVar 10) [9, 10]))))))))
def f_Needs___init__ : List LV → LH → Rs LV := frame (lBody 5 11 m_Needs___init__)
def m_needs : Ls := (sSeq (sExp (eCall f_check_town (aCons (eVar 0) aNil))) (frc (sSeq (sAsg (gNm 1) (eMake 3 f_Game___init__ (aCons (eVar 0) aNil))) (frc (sSeq (sAsg (gNm 2) (eCall f_charges_in (aCons (eVar 0) (aCons (eVar 1) aNil)))) (frc (sSeq (sAsg (gTp 2 (gsCons (gNm 3) (gsCons (gNm 4) gsNil))) (eMeth mt_safe_from_3 20 (eVar 1) (aCons (eLc (iDp (eVar 2)) (gTp 2 (gsCons (gNm 5) (gsCons (gNm 6) gsNil))) (tOf (eOp isNotV2 (eVar 6) (eC .non))) (eTup (aCons (eVar 5) (aCons (eVar 6) aNil))) [5, 6]) aNil))) (frc (sRet (eMake 5 f_Needs___init__ (aCons (eVar 2) (aCons (eVar 3) (aCons (eVar 4) (aCons (eFld na 8 (eVar 1)) aNil))))))))))))))
def f_needs : List LV → LH → Rs LV := frame (lBody 1 7 m_needs)
def m_Needs_shows : Ls := (sSeq (sExp (eCall f_check_town (aCons (eVar 1) aNil))) (frc (sSeq (sFor (iDp (eFld na 13 (eVar 0))) (gTp 2 (gsCons (gNm 2) (gsCons (gNm 3) gsNil))) (frc (sSeq (sIf (tAndL (tOf (eOp isNotV2 (eVar 3) (eC .non))) (tOf (eOp notInV (eTup (aCons (eVar 2) (aCons (eVar 3) aNil))) (eFld na 6 (eVar 0))))) (sRet (eC (.bl false))) sNil) (frc (sSeq (sAsg (gNm 4) (eIf (tOf (eOp isV2 (eVar 3) (eC .non))) (eFld na 5 (eVar 1)) (eOp subV (eVar 3) (eC (.int 1))))) (frc (sIf (tAndL (tOf (eOp geV (eVar 4) (eC (.int 0)))) (tOf (eOp notInV (eTup (aCons (eVar 2) (aCons (eVar 4) aNil))) (eFld na 8 (eVar 0))))) (sRet (eC (.bl false))) sNil))))))) (frc (sRet (eAnd (eCall f_are_closed (aCons (eVar 1) (aCons (eFld na 6 (eVar 0)) (aCons (eFld na 7 (eVar 0)) aNil)))) (eCall f_is_plan (aCons (eVar 1) (aCons (eFld na 8 (eVar 0)) aNil)))))))))
def f_Needs_shows : List LV → LH → Rs LV := frame (lBody 2 5 m_Needs_shows)
def mt_shows_5 : MT := fun c => match c with
  | 5 => some f_Needs_shows
  | _ => none
def m_Town_orders : Ls := (sRet (eFld na 3 (eVar 0)))
def f_Town_orders : List LV → LH → Rs LV := frame (lBody 1 1 m_Town_orders)
def pt_orders : MT := fun c => match c with
  | 0 => some f_Town_orders
  | _ => none
def m__law_forever_right : Ls := (sSeq (sIf (tOrL (tOf (eOp neV2 (eItL (eCall f_least_charges (aCons (eVar 0) aNil))) (eLst (aCons (eTup (aCons (eC (.int 0)) (aCons (eC (.int 0)) aNil))) (aCons (eTup (aCons (eC (.int 1)) (aCons (eC (.int 1)) aNil))) aNil))))) (tOf (eOp isNotV2 (eMeth mt_shows_5 18 (eCall f_needs (aCons (eVar 0) aNil)) (aCons (eVar 0) aNil)) (eC (.bl true))))) (sRet (eC (.bl false))) sNil) (frc (sSeq (sIf (tOf (eOp neV2 (eItL (eCall f_least_charges (aCons (eVar 1) aNil))) (eLst (aCons (eTup (aCons (eC (.int 0)) (aCons (eC .non) aNil))) (aCons (eTup (aCons (eC (.int 1)) (aCons (eC .non) aNil))) aNil))))) (sRet (eC (.bl false))) sNil) (frc (sSeq (sIf (tOf (eOp isNotV2 (eCall f_least_battery (aCons (eVar 1) (aCons (eC (.int 0)) aNil))) (eC .non))) (sRet (eC (.bl false))) sNil) (frc (sSeq (sIf (tOf (eOp neV2 (eCall f_least_battery (aCons (eVar 0) (aCons (eC (.int 0)) aNil))) (eC (.int 2)))) (sRet (eC (.bl false))) sNil) (frc (sSeq (sIf (tOf (eOp neV2 (eCall f_least_battery (aCons (eVar 0) (aCons (eC (.int 1)) aNil))) (eC (.int 2)))) (sRet (eC (.bl false))) sNil) (frc (sSeq (sIf (tOf (eOp isNotV2 (eMeth mt_shows_1_2_4_6 18 (eCall f_battery (aCons (eVar 0) (aCons (eC (.int 0)) aNil))) (aCons (eVar 0) (aCons (eC (.int 0)) aNil))) (eC (.bl true)))) (sRet (eC (.bl false))) sNil) (frc (sSeq (sAsg (gTp 2 (gsCons (gNm 4) (gsCons (gNm 5) gsNil))) (eTup (aCons (eTup (aCons (eC (.int 0)) (aCons (eC (.int 2)) aNil))) (aCons (eTup (aCons (eTup (aCons (eC (.str s_1)) (aCons (eC (.int 0)) aNil))) (aCons (eTup (aCons (eC (.str s_1)) (aCons (eC (.int 0)) aNil))) (aCons (eTup (aCons (eC (.str s_0)) aNil)) (aCons (eTup (aCons (eC (.str s_0)) aNil)) aNil))))) aNil)))) (frc (sSeq (sAsg (gNm 2) (eB rDictL (aCons (eLc (iVal (eProp pt_orders (eVar 0))) (gNm 6) tYesL (eTup (aCons (eTup (aCons (eVar 4) (aCons (eVar 6) aNil))) (aCons (eVar 5) aNil))) [6]) aNil))) (frc (sSeq (sIf (tOf (eOp isNotV2 (eMeth mt_shows_1_2_4_6 18 (eMake 1 f_Rides___init__ (aCons (eLst (aCons (eVar 4) aNil)) (aCons (eVar 2) aNil))) (aCons (eVar 0) (aCons (eVar 4) aNil))) (eC (.bl true)))) (sRet (eC (.bl false))) sNil) (frc (sSeq (sIf (tOf (eMeth mt_shows_1_2_4_6 18 (eMake 1 f_Rides___init__ (aCons (eLst (aCons (eVar 4) aNil)) (aCons (eVar 2) aNil))) (aCons (eVar 0) (aCons (eTup (aCons (eC (.int 0)) (aCons (eC (.int 3)) aNil))) aNil)))) (sRet (eC (.bl false))) sNil) (frc (sSeq (sIf (tOf (eMeth mt_shows_1_2_4_6 18 (eMake 1 f_Rides___init__ (aCons (eLst (aCons (eVar 4) aNil)) (aCons (eVar 2) aNil))) (aCons (eVar 1) (aCons (eVar 4) aNil)))) (sRet (eC (.bl false))) sNil) (frc (sSeq (sIf (tOf (eMeth mt_shows_1_2_4_6 18 (eMake 1 f_Rides___init__ (aCons (eLst (aCons (eVar 4) aNil)) (aCons (eB rDictL (aCons (eLst (aCons (eTup (aCons (eTup (aCons (eVar 4) (aCons (eTup (aCons (eC (.int 0)) (aCons (eC (.int 1)) aNil))) aNil))) (aCons (eVar 5) aNil))) aNil)) aNil)) aNil))) (aCons (eVar 0) (aCons (eVar 4) aNil)))) (sRet (eC (.bl false))) sNil) (frc (sSeq (sIf (tOf (eCall f_can_go (aCons (eVar 0) (aCons (eTup (aCons (eC (.int 1)) (aCons (eC (.int 0)) aNil))) aNil)))) (sRet (eC (.bl false))) sNil) (frc (sSeq (sIf (tNotL (tOf (eCall f_can_go (aCons (eVar 0) (aCons (eTup (aCons (eC (.int 1)) (aCons (eC (.int 1)) aNil))) aNil))))) (sRet (eC (.bl false))) sNil) (frc (sSeq (sIf (tNotL (tOf (eCall f_can_go (aCons (eVar 0) (aCons (eTup (aCons (eC (.int 0)) (aCons (eC (.int 0)) aNil))) aNil))))) (sRet (eC (.bl false))) sNil) (frc (sSeq (sIf (tOf (eCall f_can_go (aCons (eVar 1) (aCons (eTup (aCons (eC (.int 0)) (aCons (eC (.int 3)) aNil))) aNil)))) (sRet (eC (.bl false))) sNil) (frc (sSeq (sAsg (gNm 3) (eB rDictL (aCons (eLst (aCons (eTup (aCons (eTup (aCons (eC (.int 0)) (aCons (eC (.int 0)) aNil))) (aCons (eTup (aCons (eC (.int 0)) (aCons (eTup (aCons (eC (.int 1)) (aCons (eC (.int 0)) aNil))) aNil))) aNil))) (aCons (eTup (aCons (eTup (aCons (eC (.int 1)) (aCons (eC (.int 0)) aNil))) (aCons (eTup (aCons (eC (.int 3)) (aCons (eTup (aCons (eC (.int 0)) (aCons (eC (.int 1)) aNil))) aNil))) aNil))) aNil))) aNil))) (frc (sSeq (sIf (tOf (eOp isNotV2 (eMeth mt_shows_1_2_4_6 18 (eMake 2 f_Stalls___init__ (aCons (eVar 3) aNil)) (aCons (eVar 1) (aCons (eTup (aCons (eC (.int 0)) (aCons (eC (.int 0)) aNil))) aNil))) (eC (.bl true)))) (sRet (eC (.bl false))) sNil) (frc (sSeq (sIf (tOf (eOp isNotV2 (eMeth mt_shows_1_2_4_6 18 (eMake 2 f_Stalls___init__ (aCons (eVar 3) aNil)) (aCons (eVar 1) (aCons (eTup (aCons (eC (.int 1)) (aCons (eC (.int 0)) aNil))) aNil))) (eC (.bl true)))) (sRet (eC (.bl false))) sNil) (frc (sSeq (sIf (tOf (eMeth mt_shows_1_2_4_6 18 (eMake 2 f_Stalls___init__ (aCons (eVar 3) aNil)) (aCons (eVar 1) (aCons (eTup (aCons (eC (.int 0)) (aCons (eC (.int 1)) aNil))) aNil)))) (sRet (eC (.bl false))) sNil) (frc (sRet (eNot (eMeth mt_shows_1_2_4_6 18 (eMake 2 f_Stalls___init__ (aCons (eB rDictL (aCons (eLst (aCons (eTup (aCons (eTup (aCons (eC (.int 0)) (aCons (eC (.int 0)) aNil))) (aCons (eTup (aCons (eC (.int 0)) (aCons (eTup (aCons (eC (.int 0)) (aCons (eC (.int 1)) aNil))) aNil))) aNil))) aNil)) aNil)) aNil)) (aCons (eVar 1) (aCons (eTup (aCons (eC (.int 0)) (aCons (eC (.int 0)) aNil))) aNil)))))))))))))))))))))))))))))))))))))))))))))
def c__law_forever_right : List LV → LH → Rs LV := frame (lBody 2 7 m__law_forever_right)
theorem q__law_forever_right_0 : tc__law_forever_right_0.all (isMe c__law_forever_right) = true := by decide +kernel
def tbl__law_forever_right : List Me := tc__law_forever_right_0
theorem tok__law_forever_right : (tbl__law_forever_right.all fun e => isMe c__law_forever_right e) = true := by
  unfold tbl__law_forever_right
  simp only [List.all_append, q__law_forever_right_0, Bool.and_self]
def f__law_forever_right : List LV → LH → Rs LV := frame (memo tbl__law_forever_right c__law_forever_right)
def m_best_end : Ls := (sSeq (sAsg (gNm 2) (eLc (iVal (eVar 1)) (gNm 4) (tOf (eOp notInV (eVar 4) (eFld na 8 (eVar 0)))) (eVar 4) [4])) (frc (sSeq (sIf (tOf (eOp neV2 (eVar 2) (eLst aNil))) (sRet (eOp subI (eVar 2) (eC (.int 0)))) sNil) (frc (sSeq (sAsg (gNm 3) (eB rMaxL (aCons (eLc (iVal (eVar 1)) (gNm 4) tYesL (eOp subI (eOp subI (eFld na 8 (eVar 0)) (eVar 4)) (eC (.int 0))) [4]) aNil))) (frc (sRet (eOp subI (eLc (iVal (eVar 1)) (gNm 4) (tOf (eOp eqV2 (eOp subI (eOp subI (eFld na 8 (eVar 0)) (eVar 4)) (eC (.int 0))) (eVar 3))) (eVar 4) [4]) (eC (.int 0))))))))))
def f_best_end : List LV → LH → Rs LV := frame (lBody 2 5 m_best_end)
def m_Soon___init__ : Ls := (sSeq (sFldL na 10 (eVar 0) (eVar 1)) (frc (sSeq (sFldL na 8 (eVar 0) (eDc (iDp (eVar 2)) (gTp 2 (gsCons (gNm 5) (gsCons (gNm 6) gsNil))) tYesL (eVar 5) (eVar 6) [5, 6])) (frc (sSeq (sFldL na 14 (eVar 0) (eDc (iDp (eVar 3)) (gTp 2 (gsCons (gNm 5) (gsCons (gNm 7) gsNil))) tYesL (eVar 5) (eVar 7) [5, 7])) (frc (sFldL na 7 (eVar 0) (eDc (iDp (eVar 4)) (gTp 2 (gsCons (gNm 8) (gsCons (gNm 9) gsNil))) tYesL (eVar 8) (eVar 9) [8, 9]))))))))
def f_Soon___init__ : List LV → LH → Rs LV := frame (lBody 5 10 m_Soon___init__)
def m_soon : Ls := (sSeq (sExp (eCall f_check_state (aCons (eVar 0) (aCons (eVar 1) aNil)))) (frc (sSeq (sAsg (gNm 2) (eMake 3 f_Game___init__ (aCons (eVar 0) aNil))) (frc (sSeq (sIf (tOf (eOp notInV (eVar 1) (eFld na 8 (eVar 2)))) (sRet (eC .non)) sNil) (frc (sSeq (sPar 3 4 (aCons eDnew (aCons eDnew aNil))) (frc (sSeq (sFor (iDp (eFld na 9 (eVar 2))) (gTp 2 (gsCons (gNm 5) (gsCons (gNm 6) gsNil))) (frc (sSeq (sAsg (gSb (eVar 3) (eVar 5)) (eIf (tOf (eOp inV (eVar 5) (eFld na 8 (eVar 2)))) (eOp subI (eOp subI (eFld na 8 (eVar 2)) (eVar 5)) (eC (.int 0))) (eOp subI (eOp subI (eFld na 8 (eVar 2)) (eVar 1)) (eC (.int 0))))) (frc (sFor (iDp (eVar 6)) (gTp 2 (gsCons (gNm 7) (gsCons (gNm 8) gsNil))) (frc (sIf (tOf (eOp neV2 (eVar 8) eDnew)) (sAsg (gSb (eVar 4) (eTup (aCons (eVar 5) (aCons (eVar 7) aNil)))) (eOp subI (eVar 8) (eCall f_best_end (aCons (eVar 2) (aCons (eVar 8) aNil))))) sNil))))))) (frc (sRet (eMake 6 f_Soon___init__ (aCons (eOp addV (eOp subI (eOp subI (eFld na 8 (eVar 2)) (eVar 1)) (eC (.int 0))) (eC (.int 1))) (aCons (eFld na 8 (eVar 2)) (aCons (eVar 3) (aCons (eVar 4) aNil))))))))))))))))
def f_soon : List LV → LH → Rs LV := frame (lBody 2 9 m_soon)
def m_soonest : Ls := (sSeq (sAsg (gNm 2) (eCall f_soon (aCons (eVar 0) (aCons (eVar 1) aNil)))) (frc (sRet (eIf (tOf (eOp isV2 (eVar 2) (eC .non))) (eC .non) (eFld na 10 (eVar 2))))))
def f_soonest : List LV → LH → Rs LV := frame (lBody 2 3 m_soonest)
def m__law_soon_right : Ls := (sSeq (sAsg (gNm 2) (eLst (aCons (eTup (aCons (eTup (aCons (eC (.int 0)) (aCons (eC (.int 3)) aNil))) (aCons (eC (.int 4)) aNil))) (aCons (eTup (aCons (eTup (aCons (eC (.int 0)) (aCons (eC (.int 0)) aNil))) (aCons (eC (.int 1)) aNil))) (aCons (eTup (aCons (eTup (aCons (eC (.int 1)) (aCons (eC (.int 0)) aNil))) (aCons (eC (.int 1)) aNil))) (aCons (eTup (aCons (eTup (aCons (eC (.int 1)) (aCons (eC (.int 1)) aNil))) (aCons (eC (.int 2)) aNil))) (aCons (eTup (aCons (eTup (aCons (eC (.int 0)) (aCons (eC (.int 1)) aNil))) (aCons (eC (.int 2)) aNil))) aNil))))))) (frc (sSeq (sFor (iVal (eVar 2)) (gTp 2 (gsCons (gNm 3) (gsCons (gNm 4) gsNil))) (frc (sIf (tOrL (tOf (eOp neV2 (eCall f_soonest (aCons (eVar 1) (aCons (eVar 3) aNil))) (eVar 4))) (tOf (eOp isNotV2 (eMeth mt_shows_1_2_4_6 18 (eCall f_soon (aCons (eVar 1) (aCons (eVar 3) aNil))) (aCons (eVar 1) (aCons (eVar 3) aNil))) (eC (.bl true))))) (sRet (eC (.bl false))) sNil))) (frc (sSeq (sIf (tOrL (tOf (eOp isNotV2 (eCall f_soon (aCons (eVar 0) (aCons (eTup (aCons (eC (.int 0)) (aCons (eC (.int 0)) aNil))) aNil))) (eC .non))) (tOf (eOp neV2 (eCall f_soonest (aCons (eVar 0) (aCons (eTup (aCons (eC (.int 1)) (aCons (eC (.int 0)) aNil))) aNil))) (eC (.int 1))))) (sRet (eC (.bl false))) sNil) (frc (sSeq (sPar 5 6 (aCons (eB rDictL (aCons (eLst (aCons (eTup (aCons (eTup (aCons (eC (.int 0)) (aCons (eC (.int 0)) aNil))) (aCons (eTup (aCons (eC (.int 0)) (aCons (eTup (aCons (eC (.int 1)) (aCons (eC (.int 0)) aNil))) aNil))) aNil))) aNil)) aNil)) (aCons (eB rDictL (aCons (eLst (aCons (eTup (aCons (eTup (aCons (eC (.int 0)) (aCons (eC (.int 0)) aNil))) (aCons (eC (.int 0)) aNil))) aNil)) aNil)) aNil))) (frc (sSeq (sIf (tOf (eOp isNotV2 (eMeth mt_shows_1_2_4_6 18 (eMake 6 f_Soon___init__ (aCons (eC (.int 1)) (aCons (eVar 5) (aCons (eVar 6) (aCons eDnew aNil))))) (aCons (eVar 1) (aCons (eTup (aCons (eC (.int 0)) (aCons (eC (.int 0)) aNil))) aNil))) (eC (.bl true)))) (sRet (eC (.bl false))) sNil) (frc (sSeq (sIf (tOf (eMeth mt_shows_1_2_4_6 18 (eMake 6 f_Soon___init__ (aCons (eC (.int 1)) (aCons (eVar 5) (aCons eDnew (aCons eDnew aNil))))) (aCons (eVar 1) (aCons (eTup (aCons (eC (.int 0)) (aCons (eC (.int 0)) aNil))) aNil)))) (sRet (eC (.bl false))) sNil) (frc (sSeq (sIf (tOf (eMeth mt_shows_1_2_4_6 18 (eMake 6 f_Soon___init__ (aCons (eC (.int 2)) (aCons (eVar 5) (aCons (eVar 6) (aCons eDnew aNil))))) (aCons (eVar 1) (aCons (eTup (aCons (eC (.int 0)) (aCons (eC (.int 0)) aNil))) aNil)))) (sRet (eC (.bl false))) sNil) (frc (sSeq (sIf (tOf (eMeth mt_shows_1_2_4_6 18 (eMake 6 f_Soon___init__ (aCons (eC (.int 0)) (aCons (eVar 5) (aCons (eVar 6) (aCons eDnew aNil))))) (aCons (eVar 1) (aCons (eTup (aCons (eC (.int 0)) (aCons (eC (.int 0)) aNil))) aNil)))) (sRet (eC (.bl false))) sNil) (frc (sRet (eAnd (eIsi ai_Stalls (eCall f_forever (aCons (eVar 1) (aCons (eTup (aCons (eC (.int 0)) (aCons (eC (.int 3)) aNil))) aNil)))) (eIsi ai_Rides (eCall f_forever (aCons (eVar 0) (aCons (eTup (aCons (eC (.int 0)) (aCons (eC (.int 3)) aNil))) aNil))))))))))))))))))))))
def c__law_soon_right : List LV → LH → Rs LV := frame (lBody 2 7 m__law_soon_right)
theorem q__law_soon_right_0 : tc__law_soon_right_0.all (isMe c__law_soon_right) = true := by decide +kernel
def tbl__law_soon_right : List Me := tc__law_soon_right_0
theorem tok__law_soon_right : (tbl__law_soon_right.all fun e => isMe c__law_soon_right e) = true := by
  unfold tbl__law_soon_right
  simp only [List.all_append, q__law_soon_right_0, Bool.and_self]
def f__law_soon_right : List LV → LH → Rs LV := frame (memo tbl__law_soon_right c__law_soon_right)
def m__law_towns : Ls := (sSeq (sAsg (gTp 2 (gsCons (gNm 1) (gsCons (gNm 2) gsNil))) (eTup (aCons (eTup (aCons (eTup (aCons (eC (.int 0)) (aCons (eC (.int 1)) (aCons (eC (.int 1)) (aCons (eC (.int 1)) aNil))))) aNil)) (aCons (eTup (aCons (eTup (aCons (eC (.int 0)) (aCons (eC (.int 1)) aNil))) (aCons (eTup (aCons (eC (.int 1)) (aCons (eC (.int 0)) aNil))) aNil))) aNil)))) (frc (sSeq (sPar 3 4 (aCons (eMake 0 f_Town___init__ (aCons (eC (.int 2)) (aCons (eVar 1) (aCons (eTup (aCons (eC (.int 0)) aNil)) (aCons (eVar 2) (aCons (eC (.int 4)) (aCons (eC (.int 3)) aNil))))))) (aCons (eMake 0 f_Town___init__ (aCons (eC (.int 2)) (aCons (eVar 1) (aCons (eTup (aCons (eC (.int 0)) aNil)) (aCons (eVar 2) (aCons (eC (.int 3)) (aCons (eC (.int 3)) aNil))))))) aNil))) (frc (sSeq (sAsg (gNm 0) (eTup (aCons (eTup (aCons (eC (.int 0)) (aCons (eC (.int 1)) (aCons (eC (.int 1)) (aCons (eC (.int 2)) aNil))))) (aCons (eTup (aCons (eC (.int 0)) (aCons (eC (.int 1)) (aCons (eC (.int 2)) (aCons (eC (.int 1)) aNil))))) (aCons (eTup (aCons (eC (.int 1)) (aCons (eC (.int 2)) (aCons (eC (.int 1)) (aCons (eC (.int 1)) aNil))))) aNil))))) (frc (sRet (eTup (aCons (eVar 3) (aCons (eVar 4) (aCons (eMake 0 f_Town___init__ (aCons (eC (.int 3)) (aCons (eVar 0) (aCons (eTup (aCons (eC (.int 1)) aNil)) (aCons (eTup (aCons (eTup (aCons (eC (.int 0)) (aCons (eC (.int 2)) aNil))) (aCons (eTup (aCons (eC (.int 2)) (aCons (eC (.int 0)) aNil))) aNil))) (aCons (eC (.int 5)) (aCons (eC (.int 4)) aNil))))))) aNil)))))))))))
def f__law_towns : List LV → LH → Rs LV := frame (lBody 0 5 m__law_towns)
def m_law : Ls := (sSeq (sAsg (gTp 3 (gsCons (gNm 1) (gsCons (gNm 2) (gsCons (gNm 3) gsNil)))) (eCall f__law_towns aNil)) (frc (sSeq (sIf (tOrL (tNotL (tOf (eCall f__law_courses_right (aCons (eVar 1) (aCons (eVar 3) aNil))))) (tNotL (tOf (eCall f__law_forever_right (aCons (eVar 1) (aCons (eVar 2) aNil)))))) (sRet (eC (.bl false))) sNil) (frc (sRet (eAnd (eCall f__law_batteries_right (aCons (eVar 2) aNil)) (eCall f__law_soon_right (aCons (eVar 1) (aCons (eVar 2) aNil)))))))))
def f_law : List LV → LH → Rs LV := (lBody 1 4 m_law)
end K06

namespace K06
open LT
def isT : Rs LV → Bool
  | .ok (.bl b) _ => b
  | _ => false
theorem ev : isT (lBody0 4 m_law []) = true := by decide +kernel
end K06

set_option Elab.async false
set_option linter.all false
set_option autoImplicit false
set_option maxRecDepth 100000
set_option maxHeartbeats 400000
namespace K06
open PySem PySem.Spec L2 LT
def top (i : Nat) : Stmt := PySem.Challenge.pw_lastcharge_k06_known.main.body.getD i (.Pass ⟨0, 0, 0, 0⟩)
def clsB : Stmt → List Stmt
  | .ClassDef _ _ _ b _ _ _ _ _ _ _ => b
  | _ => []
def mth (i j : Nat) : Stmt := (clsB (top i)).getD j (.Pass ⟨0, 0, 0, 0⟩)
def clsN : Nat → Str
  | 0 => "Town"
  | 1 => "Rides"
  | 2 => "Stalls"
  | 3 => "Game"
  | 4 => "Battery"
  | 5 => "Needs"
  | 6 => "Soon"
  | _ => ""
def attN : List Str := ["many", "ways", "plugs", "jobs", "limit", "full", "states", "courses", "plan", "rows", "number", "rides", "stalls", "charges", "levels", "__init__", "__eq__", "all_parts", "shows", "lost", "safe_from", "does_stall", "holds"]
def GG (K : PySem.W.Frag) : Gm := ⟨fun c => He.ga K (clsN c), attOf attN, attOf_inj (by decide +kernel) (by decide +kernel)⟩
abbrev s_check_town : Stmt := top 20
abbrev N_check_town : List Str := ["town"]
abbrev P_check_town : List Str := ["town"]
theorem S_check_town : FnScope N_check_town P_check_town (defScope s_check_town) := ⟨rfl, rfl, rfl, by decide +kernel, rfl, by decide +kernel, by decide +kernel⟩
abbrev s_is_integer : Stmt := top 14
abbrev N_is_integer : List Str := ["value", "low", "high"]
abbrev P_is_integer : List Str := ["value", "low", "high"]
theorem S_is_integer : FnScope N_is_integer P_is_integer (defScope s_is_integer) := ⟨rfl, rfl, rfl, by decide +kernel, rfl, by decide +kernel, by decide +kernel⟩
abbrev s_check_place : Stmt := top 24
abbrev N_check_place : List Str := ["town", "place"]
abbrev P_check_place : List Str := ["town", "place"]
theorem S_check_place : FnScope N_check_place P_check_place (defScope s_check_place) := ⟨rfl, rfl, rfl, by decide +kernel, rfl, by decide +kernel, by decide +kernel⟩
abbrev s_all_states : Stmt := top 26
abbrev N_all_states : List Str := ["town", "place", "charge"]
abbrev P_all_states : List Str := ["town"]
theorem S_all_states : FnScope N_all_states P_all_states (defScope s_all_states) := ⟨rfl, rfl, rfl, by decide +kernel, rfl, by decide +kernel, by decide +kernel⟩
abbrev s_is_new : Stmt := top 43
abbrev N_is_new : List Str := ["known", "layers", "end", "time", "late", "at", "row"]
abbrev P_is_new : List Str := ["known", "layers", "end", "time"]
theorem S_is_new : FnScope N_is_new P_is_new (defScope s_is_new) := ⟨rfl, rfl, rfl, by decide +kernel, rfl, by decide +kernel, by decide +kernel⟩
abbrev s_stage_after : Stmt := top 41
abbrev N_stage_after : List Str := ["order", "stage", "place"]
abbrev P_stage_after : List Str := ["order", "stage", "place"]
theorem S_stage_after : FnScope N_stage_after P_stage_after (defScope s_stage_after) := ⟨rfl, rfl, rfl, by decide +kernel, rfl, by decide +kernel, by decide +kernel⟩
abbrev s_steps_at : Stmt := top 30
abbrev N_steps_at : List Str := ["town", "state", "found", "place", "charge", "index", "one", "other", "minutes", "energy", "later"]
abbrev P_steps_at : List Str := ["town", "state"]
theorem S_steps_at : FnScope N_steps_at P_steps_at (defScope s_steps_at) := ⟨rfl, rfl, rfl, by decide +kernel, rfl, by decide +kernel, by decide +kernel⟩
abbrev s_courses_of : Stmt := top 42
abbrev N_courses_of : List Str := ["town", "state", "order", "begin", "time", "found", "known", "layers", "spot", "end", "step", "later", "many", "course"]
abbrev P_courses_of : List Str := ["town", "state", "order"]
theorem S_courses_of : FnScope N_courses_of P_courses_of (defScope s_courses_of) := ⟨rfl, rfl, rfl, by decide +kernel, rfl, by decide +kernel, by decide +kernel⟩
abbrev s_Game_lost : Stmt := mth 51 1
abbrev N_Game_lost : List Str := ["self", "rank", "found", "state", "rows", "able", "order", "courses", "end"]
abbrev P_Game_lost : List Str := ["self", "rank"]
theorem S_Game_lost : FnScope N_Game_lost P_Game_lost (defScope s_Game_lost) := ⟨rfl, rfl, rfl, by decide +kernel, rfl, by decide +kernel, by decide +kernel⟩
abbrev s_Game___init__ : Stmt := mth 51 0
abbrev N_Game___init__ : List Str := ["self", "town", "state", "rank", "fresh", "order"]
abbrev P_Game___init__ : List Str := ["self", "town"]
theorem S_Game___init__ : FnScope N_Game___init__ P_Game___init__ (defScope s_Game___init__) := ⟨rfl, rfl, rfl, by decide +kernel, rfl, by decide +kernel, by decide +kernel⟩
abbrev s_Rides___init__ : Stmt := mth 47 0
abbrev N_Rides___init__ : List Str := ["self", "states", "courses", "pair", "course"]
abbrev P_Rides___init__ : List Str := ["self", "states", "courses"]
theorem S_Rides___init__ : FnScope N_Rides___init__ P_Rides___init__ (defScope s_Rides___init__) := ⟨rfl, rfl, rfl, by decide +kernel, rfl, by decide +kernel, by decide +kernel⟩
abbrev s_Stalls___init__ : Stmt := mth 49 0
abbrev N_Stalls___init__ : List Str := ["self", "plan", "state", "row"]
abbrev P_Stalls___init__ : List Str := ["self", "plan"]
theorem S_Stalls___init__ : FnScope N_Stalls___init__ P_Stalls___init__ (defScope s_Stalls___init__) := ⟨rfl, rfl, rfl, by decide +kernel, rfl, by decide +kernel, by decide +kernel⟩
abbrev s_Game_safe_from : Stmt := mth 51 2
abbrev N_Game_safe_from : List Str := ["self", "states", "known", "waiting", "found", "state", "order", "courses", "end", "one"]
abbrev P_Game_safe_from : List Str := ["self", "states"]
theorem S_Game_safe_from : FnScope N_Game_safe_from P_Game_safe_from (defScope s_Game_safe_from) := ⟨rfl, rfl, rfl, by decide +kernel, rfl, by decide +kernel, by decide +kernel⟩
abbrev s_forever_of : Stmt := top 52
abbrev N_forever_of : List Str := ["town", "state", "game", "states", "courses"]
abbrev P_forever_of : List Str := ["town", "state"]
theorem S_forever_of : FnScope N_forever_of P_forever_of (defScope s_forever_of) := ⟨rfl, rfl, rfl, by decide +kernel, rfl, by decide +kernel, by decide +kernel⟩
abbrev s_are_rows : Stmt := top 18
abbrev N_are_rows : List Str := ["value", "fewest", "most"]
abbrev P_are_rows : List Str := ["value", "fewest", "most"]
theorem S_are_rows : FnScope N_are_rows P_are_rows (defScope s_are_rows) := ⟨rfl, rfl, rfl, by decide +kernel, rfl, by decide +kernel, by decide +kernel⟩
abbrev s_is_pair : Stmt := top 17
abbrev N_is_pair : List Str := ["value", "places", "one"]
abbrev P_is_pair : List Str := ["value", "places"]
theorem S_is_pair : FnScope N_is_pair P_is_pair (defScope s_is_pair) := ⟨rfl, rfl, rfl, by decide +kernel, rfl, by decide +kernel, by decide +kernel⟩
abbrev s_is_rising : Stmt := top 15
abbrev N_is_rising : List Str := ["rows", "one", "other"]
abbrev P_is_rising : List Str := ["rows"]
theorem S_is_rising : FnScope N_is_rising P_is_rising (defScope s_is_rising) := ⟨rfl, rfl, rfl, by decide +kernel, rfl, by decide +kernel, by decide +kernel⟩
abbrev s_is_road : Stmt := top 16
abbrev N_is_road : List Str := ["value", "places", "one"]
abbrev P_is_road : List Str := ["value", "places"]
theorem S_is_road : FnScope N_is_road P_is_road (defScope s_is_road) := ⟨rfl, rfl, rfl, by decide +kernel, rfl, by decide +kernel, by decide +kernel⟩
abbrev s_Town___init__ : Stmt := mth 19 0
abbrev N_Town___init__ : List Str := ["self", "places", "roads", "chargers", "orders", "minutes", "battery", "road", "one", "order"]
abbrev P_Town___init__ : List Str := ["self", "places", "roads", "chargers", "orders", "minutes", "battery"]
theorem S_Town___init__ : FnScope N_Town___init__ P_Town___init__ (defScope s_Town___init__) := ⟨rfl, rfl, rfl, by decide +kernel, rfl, by decide +kernel, by decide +kernel⟩
abbrev s_with_battery : Stmt := top 25
abbrev N_with_battery : List Str := ["town", "battery"]
abbrev P_with_battery : List Str := ["town", "battery"]
theorem S_with_battery : FnScope N_with_battery P_with_battery (defScope s_with_battery) := ⟨rfl, rfl, rfl, by decide +kernel, rfl, by decide +kernel, by decide +kernel⟩
abbrev s_Battery___init__ : Stmt := mth 56 0
abbrev N_Battery___init__ : List Str := ["self", "number", "rides", "stalls"]
abbrev P_Battery___init__ : List Str := ["self", "number", "rides", "stalls"]
theorem S_Battery___init__ : FnScope N_Battery___init__ P_Battery___init__ (defScope s_Battery___init__) := ⟨rfl, rfl, rfl, by decide +kernel, rfl, by decide +kernel, by decide +kernel⟩
abbrev s_battery : Stmt := top 57
abbrev N_battery : List Str := ["town", "place", "stalls", "number", "found"]
abbrev P_battery : List Str := ["town", "place"]
theorem S_battery : FnScope N_battery P_battery (defScope s_battery) := ⟨rfl, rfl, rfl, by decide +kernel, rfl, by decide +kernel, by decide +kernel⟩
abbrev s_least_battery : Stmt := top 58
abbrev N_least_battery : List Str := ["town", "place"]
abbrev P_least_battery : List Str := ["town", "place"]
theorem S_least_battery : FnScope N_least_battery P_least_battery (defScope s_least_battery) := ⟨rfl, rfl, rfl, by decide +kernel, rfl, by decide +kernel, by decide +kernel⟩
abbrev s_does_carry : Stmt := top 36
abbrev N_does_carry : List Str := ["order", "states", "places", "place", "charge"]
abbrev P_does_carry : List Str := ["order", "states"]
theorem S_does_carry : FnScope N_does_carry P_does_carry (defScope s_does_carry) := ⟨rfl, rfl, rfl, by decide +kernel, rfl, by decide +kernel, by decide +kernel⟩
abbrev s_is_step : Stmt := top 31
abbrev N_is_step : List Str := ["town", "value"]
abbrev P_is_step : List Str := ["town", "value"]
theorem S_is_step : FnScope N_is_step P_is_step (defScope s_is_step) := ⟨rfl, rfl, rfl, by decide +kernel, rfl, by decide +kernel, by decide +kernel⟩
abbrev s_step_at : Stmt := top 32
abbrev N_step_at : List Str := ["town", "state", "value", "found", "step", "later", "minutes"]
abbrev P_step_at : List Str := ["town", "state", "value"]
theorem S_step_at : FnScope N_step_at P_step_at (defScope s_step_at) := ⟨rfl, rfl, rfl, by decide +kernel, rfl, by decide +kernel, by decide +kernel⟩
abbrev s_walked : Stmt := top 33
abbrev N_walked : List Str := ["town", "state", "course", "found", "total", "index", "value", "row"]
abbrev P_walked : List Str := ["town", "state", "course"]
theorem S_walked : FnScope N_walked P_walked (defScope s_walked) := ⟨rfl, rfl, rfl, by decide +kernel, rfl, by decide +kernel, by decide +kernel⟩
abbrev s_end_of : Stmt := top 37
abbrev N_end_of : List Str := ["town", "state", "order", "course", "found", "total", "index"]
abbrev P_end_of : List Str := ["town", "state", "order", "course"]
theorem S_end_of : FnScope N_end_of P_end_of (defScope s_end_of) := ⟨rfl, rfl, rfl, by decide +kernel, rfl, by decide +kernel, by decide +kernel⟩
abbrev s_are_closed : Stmt := top 48
abbrev N_are_closed : List Str := ["town", "states", "courses", "known", "pairs", "state", "order", "pair"]
abbrev P_are_closed : List Str := ["town", "states", "courses"]
theorem S_are_closed : FnScope N_are_closed P_are_closed (defScope s_are_closed) := ⟨rfl, rfl, rfl, by decide +kernel, rfl, by decide +kernel, by decide +kernel⟩
abbrev s_is_state : Stmt := top 21
abbrev N_is_state : List Str := ["town", "value"]
abbrev P_is_state : List Str := ["town", "value"]
theorem S_is_state : FnScope N_is_state P_is_state (defScope s_is_state) := ⟨rfl, rfl, rfl, by decide +kernel, rfl, by decide +kernel, by decide +kernel⟩
abbrev s_check_state : Stmt := top 22
abbrev N_check_state : List Str := ["town", "state"]
abbrev P_check_state : List Str := ["town", "state"]
theorem S_check_state : FnScope N_check_state P_check_state (defScope s_check_state) := ⟨rfl, rfl, rfl, by decide +kernel, rfl, by decide +kernel, by decide +kernel⟩
abbrev s_Rides_shows : Stmt := mth 47 2
abbrev N_Rides_shows : List Str := ["self", "town", "state"]
abbrev P_Rides_shows : List Str := ["self", "town", "state"]
theorem S_Rides_shows : FnScope N_Rides_shows P_Rides_shows (defScope s_Rides_shows) := ⟨rfl, rfl, rfl, by decide +kernel, rfl, by decide +kernel, by decide +kernel⟩
abbrev s_is_plan : Stmt := top 50
abbrev N_is_plan : List Str := ["town", "plan", "state", "end", "rank", "order"]
abbrev P_is_plan : List Str := ["town", "plan"]
theorem S_is_plan : FnScope N_is_plan P_is_plan (defScope s_is_plan) := ⟨rfl, rfl, rfl, by decide +kernel, rfl, by decide +kernel, by decide +kernel⟩
abbrev s_Stalls_shows : Stmt := mth 49 2
abbrev N_Stalls_shows : List Str := ["self", "town", "state"]
abbrev P_Stalls_shows : List Str := ["self", "town", "state"]
theorem S_Stalls_shows : FnScope N_Stalls_shows P_Stalls_shows (defScope s_Stalls_shows) := ⟨rfl, rfl, rfl, by decide +kernel, rfl, by decide +kernel, by decide +kernel⟩
abbrev s_Soon_holds : Stmt := mth 65 4
abbrev N_Soon_holds : List Str := ["self", "town", "state", "level", "order", "course", "end"]
abbrev P_Soon_holds : List Str := ["self", "town", "state"]
theorem S_Soon_holds : FnScope N_Soon_holds P_Soon_holds (defScope s_Soon_holds) := ⟨rfl, rfl, rfl, by decide +kernel, rfl, by decide +kernel, by decide +kernel⟩
abbrev s_Soon_shows : Stmt := mth 65 3
abbrev N_Soon_shows : List Str := ["self", "town", "state", "one"]
abbrev P_Soon_shows : List Str := ["self", "town", "state"]
theorem S_Soon_shows : FnScope N_Soon_shows P_Soon_shows (defScope s_Soon_shows) := ⟨rfl, rfl, rfl, by decide +kernel, rfl, by decide +kernel, by decide +kernel⟩
abbrev s_Battery_does_stall : Stmt := mth 56 4
abbrev N_Battery_does_stall : List Str := ["self", "town", "place", "battery"]
abbrev P_Battery_does_stall : List Str := ["self", "town", "place", "battery"]
theorem S_Battery_does_stall : FnScope N_Battery_does_stall P_Battery_does_stall (defScope s_Battery_does_stall) := ⟨rfl, rfl, rfl, by decide +kernel, rfl, by decide +kernel, by decide +kernel⟩
abbrev s_Battery_shows : Stmt := mth 56 3
abbrev N_Battery_shows : List Str := ["self", "town", "place"]
abbrev P_Battery_shows : List Str := ["self", "town", "place"]
theorem S_Battery_shows : FnScope N_Battery_shows P_Battery_shows (defScope s_Battery_shows) := ⟨rfl, rfl, rfl, by decide +kernel, rfl, by decide +kernel, by decide +kernel⟩
abbrev s__law_batteries_right : Stmt := top 73
abbrev N__law_batteries_right : List Str := ["_law_short", "_law_town", "_law_one", "_law_way", "_law_rides", "_law_found"]
abbrev P__law_batteries_right : List Str := ["_law_short"]
theorem S__law_batteries_right : FnScope N__law_batteries_right P__law_batteries_right (defScope s__law_batteries_right) := ⟨rfl, rfl, rfl, by decide +kernel, rfl, by decide +kernel, by decide +kernel⟩
abbrev s_check_order : Stmt := top 23
abbrev N_check_order : List Str := ["town", "order"]
abbrev P_check_order : List Str := ["town", "order"]
theorem S_check_order : FnScope N_check_order P_check_order (defScope s_check_order) := ⟨rfl, rfl, rfl, by decide +kernel, rfl, by decide +kernel, by decide +kernel⟩
abbrev s_course_of : Stmt := top 35
abbrev N_course_of : List Str := ["town", "state", "course", "found", "total", "index"]
abbrev P_course_of : List Str := ["town", "state", "course"]
theorem S_course_of : FnScope N_course_of P_course_of (defScope s_course_of) := ⟨rfl, rfl, rfl, by decide +kernel, rfl, by decide +kernel, by decide +kernel⟩
abbrev s_carries : Stmt := top 40
abbrev N_carries : List Str := ["town", "state", "order", "course"]
abbrev P_carries : List Str := ["town", "state", "order", "course"]
theorem S_carries : FnScope N_carries P_carries (defScope s_carries) := ⟨rfl, rfl, rfl, by decide +kernel, rfl, by decide +kernel, by decide +kernel⟩
abbrev s_course_to : Stmt := top 45
abbrev N_course_to : List Str := ["town", "state", "order", "end"]
abbrev P_course_to : List Str := ["town", "state", "order", "end"]
theorem S_course_to : FnScope N_course_to P_course_to (defScope s_course_to) := ⟨rfl, rfl, rfl, by decide +kernel, rfl, by decide +kernel, by decide +kernel⟩
abbrev s_ends : Stmt := top 44
abbrev N_ends : List Str := ["town", "state", "order"]
abbrev P_ends : List Str := ["town", "state", "order"]
theorem S_ends : FnScope N_ends P_ends (defScope s_ends) := ⟨rfl, rfl, rfl, by decide +kernel, rfl, by decide +kernel, by decide +kernel⟩
abbrev s_check_course : Stmt := top 34
abbrev N_check_course : List Str := ["town", "state", "course"]
abbrev P_check_course : List Str := ["town", "state", "course"]
theorem S_check_course : FnScope N_check_course P_check_course (defScope s_check_course) := ⟨rfl, rfl, rfl, by decide +kernel, rfl, by decide +kernel, by decide +kernel⟩
abbrev s_minutes : Stmt := top 39
abbrev N_minutes : List Str := ["town", "state", "course"]
abbrev P_minutes : List Str := ["town", "state", "course"]
theorem S_minutes : FnScope N_minutes P_minutes (defScope s_minutes) := ⟨rfl, rfl, rfl, by decide +kernel, rfl, by decide +kernel, by decide +kernel⟩
abbrev s_walk : Stmt := top 38
abbrev N_walk : List Str := ["town", "state", "course"]
abbrev P_walk : List Str := ["town", "state", "course"]
theorem S_walk : FnScope N_walk P_walk (defScope s_walk) := ⟨rfl, rfl, rfl, by decide +kernel, rfl, by decide +kernel, by decide +kernel⟩
abbrev s__law_courses_right : Stmt := top 71
abbrev N__law_courses_right : List Str := ["_law_long", "_law_wide", "_law_course"]
abbrev P__law_courses_right : List Str := ["_law_long", "_law_wide"]
theorem S__law_courses_right : FnScope N__law_courses_right P__law_courses_right (defScope s__law_courses_right) := ⟨rfl, rfl, rfl, by decide +kernel, rfl, by decide +kernel, by decide +kernel⟩
abbrev s_forever : Stmt := top 53
abbrev N_forever : List Str := ["town", "state"]
abbrev P_forever : List Str := ["town", "state"]
theorem S_forever : FnScope N_forever P_forever (defScope s_forever) := ⟨rfl, rfl, rfl, by decide +kernel, rfl, by decide +kernel, by decide +kernel⟩
abbrev s_can_go : Stmt := top 54
abbrev N_can_go : List Str := ["town", "state"]
abbrev P_can_go : List Str := ["town", "state"]
theorem S_can_go : FnScope N_can_go P_can_go (defScope s_can_go) := ⟨rfl, rfl, rfl, by decide +kernel, rfl, by decide +kernel, by decide +kernel⟩
abbrev s_charges_in : Stmt := top 61
abbrev N_charges_in : List Str := ["town", "game", "found", "place", "able", "charge"]
abbrev P_charges_in : List Str := ["town", "game"]
theorem S_charges_in : FnScope N_charges_in P_charges_in (defScope s_charges_in) := ⟨rfl, rfl, rfl, by decide +kernel, rfl, by decide +kernel, by decide +kernel⟩
abbrev s_least_charges : Stmt := top 63
abbrev N_least_charges : List Str := ["town"]
abbrev P_least_charges : List Str := ["town"]
theorem S_least_charges : FnScope N_least_charges P_least_charges (defScope s_least_charges) := ⟨rfl, rfl, rfl, by decide +kernel, rfl, by decide +kernel, by decide +kernel⟩
abbrev s_Needs___init__ : Stmt := mth 60 0
abbrev N_Needs___init__ : List Str := ["self", "charges", "states", "courses", "plan", "place", "charge", "pair", "course", "state", "row"]
abbrev P_Needs___init__ : List Str := ["self", "charges", "states", "courses", "plan"]
theorem S_Needs___init__ : FnScope N_Needs___init__ P_Needs___init__ (defScope s_Needs___init__) := ⟨rfl, rfl, rfl, by decide +kernel, rfl, by decide +kernel, by decide +kernel⟩
abbrev s_needs : Stmt := top 62
abbrev N_needs : List Str := ["town", "game", "charges", "states", "courses", "place", "charge"]
abbrev P_needs : List Str := ["town"]
theorem S_needs : FnScope N_needs P_needs (defScope s_needs) := ⟨rfl, rfl, rfl, by decide +kernel, rfl, by decide +kernel, by decide +kernel⟩
abbrev s_Needs_shows : Stmt := mth 60 3
abbrev N_Needs_shows : List Str := ["self", "town", "place", "charge", "low"]
abbrev P_Needs_shows : List Str := ["self", "town"]
theorem S_Needs_shows : FnScope N_Needs_shows P_Needs_shows (defScope s_Needs_shows) := ⟨rfl, rfl, rfl, by decide +kernel, rfl, by decide +kernel, by decide +kernel⟩
abbrev s_Town_orders : Stmt := mth 19 4
abbrev N_Town_orders : List Str := ["self"]
abbrev P_Town_orders : List Str := ["self"]
theorem S_Town_orders : FnScope N_Town_orders P_Town_orders (defScope s_Town_orders) := ⟨rfl, rfl, rfl, by decide +kernel, rfl, by decide +kernel, by decide +kernel⟩
abbrev s__law_forever_right : Stmt := top 72
abbrev N__law_forever_right : List Str := ["_law_long", "_law_short", "_law_courses", "_law_plan", "_law_rest", "_law_back", "_law_order"]
abbrev P__law_forever_right : List Str := ["_law_long", "_law_short"]
theorem S__law_forever_right : FnScope N__law_forever_right P__law_forever_right (defScope s__law_forever_right) := ⟨rfl, rfl, rfl, by decide +kernel, rfl, by decide +kernel, by decide +kernel⟩
abbrev s_best_end : Stmt := top 67
abbrev N_best_end : List Str := ["game", "ways", "safe", "most", "end"]
abbrev P_best_end : List Str := ["game", "ways"]
theorem S_best_end : FnScope N_best_end P_best_end (defScope s_best_end) := ⟨rfl, rfl, rfl, by decide +kernel, rfl, by decide +kernel, by decide +kernel⟩
abbrev s_Soon___init__ : Stmt := mth 65 0
abbrev N_Soon___init__ : List Str := ["self", "number", "plan", "levels", "courses", "state", "row", "level", "pair", "course"]
abbrev P_Soon___init__ : List Str := ["self", "number", "plan", "levels", "courses"]
theorem S_Soon___init__ : FnScope N_Soon___init__ P_Soon___init__ (defScope s_Soon___init__) := ⟨rfl, rfl, rfl, by decide +kernel, rfl, by decide +kernel, by decide +kernel⟩
abbrev s_soon : Stmt := top 66
abbrev N_soon : List Str := ["town", "state", "game", "levels", "courses", "one", "rows", "order", "ways"]
abbrev P_soon : List Str := ["town", "state"]
theorem S_soon : FnScope N_soon P_soon (defScope s_soon) := ⟨rfl, rfl, rfl, by decide +kernel, rfl, by decide +kernel, by decide +kernel⟩
abbrev s_soonest : Stmt := top 68
abbrev N_soonest : List Str := ["town", "state", "found"]
abbrev P_soonest : List Str := ["town", "state"]
theorem S_soonest : FnScope N_soonest P_soonest (defScope s_soonest) := ⟨rfl, rfl, rfl, by decide +kernel, rfl, by decide +kernel, by decide +kernel⟩
abbrev s__law_soon_right : Stmt := top 74
abbrev N__law_soon_right : List Str := ["_law_long", "_law_short", "_law_rows", "_law_state", "_law_number", "_law_plan", "_law_levels"]
abbrev P__law_soon_right : List Str := ["_law_long", "_law_short"]
theorem S__law_soon_right : FnScope N__law_soon_right P__law_soon_right (defScope s__law_soon_right) := ⟨rfl, rfl, rfl, by decide +kernel, rfl, by decide +kernel, by decide +kernel⟩
abbrev s__law_towns : Stmt := top 70
abbrev N__law_towns : List Str := ["_law_roads", "_law_road", "_law_both", "_law_long", "_law_short"]
abbrev P__law_towns : List Str := []
theorem S__law_towns : FnScope N__law_towns P__law_towns (defScope s__law_towns) := ⟨rfl, rfl, rfl, by decide +kernel, rfl, by decide +kernel, by decide +kernel⟩
abbrev s_law : Stmt := top 75
abbrev N_law : List Str := ["_law_script", "_law_long", "_law_short", "_law_wide"]
abbrev P_law : List Str := ["_law_script"]
theorem S_law : FnScope N_law P_law (defScope s_law) := ⟨rfl, rfl, rfl, by decide +kernel, rfl, by decide +kernel, by decide +kernel⟩
def d_check_town : He.DefD := ⟨("check_town", none), "check_town", "check_town", defArgs s_check_town, defBody s_check_town, defScope s_check_town, [], []⟩
def d_is_integer : He.DefD := ⟨("is_integer", none), "is_integer", "is_integer", defArgs s_is_integer, defBody s_is_integer, defScope s_is_integer, [], []⟩
def d_check_place : He.DefD := ⟨("check_place", none), "check_place", "check_place", defArgs s_check_place, defBody s_check_place, defScope s_check_place, [], []⟩
def d_all_states : He.DefD := ⟨("all_states", none), "all_states", "all_states", defArgs s_all_states, defBody s_all_states, defScope s_all_states, [], []⟩
def d_is_new : He.DefD := ⟨("is_new", none), "is_new", "is_new", defArgs s_is_new, defBody s_is_new, defScope s_is_new, [], []⟩
def d_stage_after : He.DefD := ⟨("stage_after", none), "stage_after", "stage_after", defArgs s_stage_after, defBody s_stage_after, defScope s_stage_after, [], []⟩
def d_steps_at : He.DefD := ⟨("steps_at", none), "steps_at", "steps_at", defArgs s_steps_at, defBody s_steps_at, defScope s_steps_at, [], []⟩
def d_courses_of : He.DefD := ⟨("courses_of", none), "courses_of", "courses_of", defArgs s_courses_of, defBody s_courses_of, defScope s_courses_of, [], []⟩
def d_Game_lost : He.DefD := ⟨("Game", some "lost"), "lost", "Game.lost", defArgs s_Game_lost, defBody s_Game_lost, defScope s_Game_lost, [], []⟩
def d_Game___init__ : He.DefD := ⟨("Game", some "__init__"), "__init__", "Game.__init__", defArgs s_Game___init__, defBody s_Game___init__, defScope s_Game___init__, [], []⟩
def d_Rides___init__ : He.DefD := ⟨("Rides", some "__init__"), "__init__", "Rides.__init__", defArgs s_Rides___init__, defBody s_Rides___init__, defScope s_Rides___init__, [], []⟩
def d_Stalls___init__ : He.DefD := ⟨("Stalls", some "__init__"), "__init__", "Stalls.__init__", defArgs s_Stalls___init__, defBody s_Stalls___init__, defScope s_Stalls___init__, [], []⟩
def d_Game_safe_from : He.DefD := ⟨("Game", some "safe_from"), "safe_from", "Game.safe_from", defArgs s_Game_safe_from, defBody s_Game_safe_from, defScope s_Game_safe_from, [], []⟩
def d_forever_of : He.DefD := ⟨("forever_of", none), "forever_of", "forever_of", defArgs s_forever_of, defBody s_forever_of, defScope s_forever_of, [], []⟩
def d_are_rows : He.DefD := ⟨("are_rows", none), "are_rows", "are_rows", defArgs s_are_rows, defBody s_are_rows, defScope s_are_rows, [], []⟩
def d_is_pair : He.DefD := ⟨("is_pair", none), "is_pair", "is_pair", defArgs s_is_pair, defBody s_is_pair, defScope s_is_pair, [], []⟩
def d_is_rising : He.DefD := ⟨("is_rising", none), "is_rising", "is_rising", defArgs s_is_rising, defBody s_is_rising, defScope s_is_rising, [], []⟩
def d_is_road : He.DefD := ⟨("is_road", none), "is_road", "is_road", defArgs s_is_road, defBody s_is_road, defScope s_is_road, [], []⟩
def d_Town___init__ : He.DefD := ⟨("Town", some "__init__"), "__init__", "Town.__init__", defArgs s_Town___init__, defBody s_Town___init__, defScope s_Town___init__, [], []⟩
def d_with_battery : He.DefD := ⟨("with_battery", none), "with_battery", "with_battery", defArgs s_with_battery, defBody s_with_battery, defScope s_with_battery, [], []⟩
def d_Battery___init__ : He.DefD := ⟨("Battery", some "__init__"), "__init__", "Battery.__init__", defArgs s_Battery___init__, defBody s_Battery___init__, defScope s_Battery___init__, [], []⟩
def d_battery : He.DefD := ⟨("battery", none), "battery", "battery", defArgs s_battery, defBody s_battery, defScope s_battery, [], []⟩
def d_least_battery : He.DefD := ⟨("least_battery", none), "least_battery", "least_battery", defArgs s_least_battery, defBody s_least_battery, defScope s_least_battery, [], []⟩
def d_does_carry : He.DefD := ⟨("does_carry", none), "does_carry", "does_carry", defArgs s_does_carry, defBody s_does_carry, defScope s_does_carry, [], []⟩
def d_is_step : He.DefD := ⟨("is_step", none), "is_step", "is_step", defArgs s_is_step, defBody s_is_step, defScope s_is_step, [], []⟩
def d_step_at : He.DefD := ⟨("step_at", none), "step_at", "step_at", defArgs s_step_at, defBody s_step_at, defScope s_step_at, [], []⟩
def d_walked : He.DefD := ⟨("walked", none), "walked", "walked", defArgs s_walked, defBody s_walked, defScope s_walked, [], []⟩
def d_end_of : He.DefD := ⟨("end_of", none), "end_of", "end_of", defArgs s_end_of, defBody s_end_of, defScope s_end_of, [], []⟩
def d_are_closed : He.DefD := ⟨("are_closed", none), "are_closed", "are_closed", defArgs s_are_closed, defBody s_are_closed, defScope s_are_closed, [], []⟩
def d_is_state : He.DefD := ⟨("is_state", none), "is_state", "is_state", defArgs s_is_state, defBody s_is_state, defScope s_is_state, [], []⟩
def d_check_state : He.DefD := ⟨("check_state", none), "check_state", "check_state", defArgs s_check_state, defBody s_check_state, defScope s_check_state, [], []⟩
def d_Rides_shows : He.DefD := ⟨("Rides", some "shows"), "shows", "Rides.shows", defArgs s_Rides_shows, defBody s_Rides_shows, defScope s_Rides_shows, [], []⟩
def d_is_plan : He.DefD := ⟨("is_plan", none), "is_plan", "is_plan", defArgs s_is_plan, defBody s_is_plan, defScope s_is_plan, [], []⟩
def d_Stalls_shows : He.DefD := ⟨("Stalls", some "shows"), "shows", "Stalls.shows", defArgs s_Stalls_shows, defBody s_Stalls_shows, defScope s_Stalls_shows, [], []⟩
def d_Soon_holds : He.DefD := ⟨("Soon", some "holds"), "holds", "Soon.holds", defArgs s_Soon_holds, defBody s_Soon_holds, defScope s_Soon_holds, [], []⟩
def d_Soon_shows : He.DefD := ⟨("Soon", some "shows"), "shows", "Soon.shows", defArgs s_Soon_shows, defBody s_Soon_shows, defScope s_Soon_shows, [], []⟩
def d_Battery_does_stall : He.DefD := ⟨("Battery", some "does_stall"), "does_stall", "Battery.does_stall", defArgs s_Battery_does_stall, defBody s_Battery_does_stall, defScope s_Battery_does_stall, [], []⟩
def d_Battery_shows : He.DefD := ⟨("Battery", some "shows"), "shows", "Battery.shows", defArgs s_Battery_shows, defBody s_Battery_shows, defScope s_Battery_shows, [], []⟩
def d__law_batteries_right : He.DefD := ⟨("_law_batteries_right", none), "_law_batteries_right", "_law_batteries_right", defArgs s__law_batteries_right, defBody s__law_batteries_right, defScope s__law_batteries_right, [], []⟩
def d_check_order : He.DefD := ⟨("check_order", none), "check_order", "check_order", defArgs s_check_order, defBody s_check_order, defScope s_check_order, [], []⟩
def d_course_of : He.DefD := ⟨("course_of", none), "course_of", "course_of", defArgs s_course_of, defBody s_course_of, defScope s_course_of, [], []⟩
def d_carries : He.DefD := ⟨("carries", none), "carries", "carries", defArgs s_carries, defBody s_carries, defScope s_carries, [], []⟩
def d_course_to : He.DefD := ⟨("course_to", none), "course_to", "course_to", defArgs s_course_to, defBody s_course_to, defScope s_course_to, [], []⟩
def d_ends : He.DefD := ⟨("ends", none), "ends", "ends", defArgs s_ends, defBody s_ends, defScope s_ends, [], []⟩
def d_check_course : He.DefD := ⟨("check_course", none), "check_course", "check_course", defArgs s_check_course, defBody s_check_course, defScope s_check_course, [], []⟩
def d_minutes : He.DefD := ⟨("minutes", none), "minutes", "minutes", defArgs s_minutes, defBody s_minutes, defScope s_minutes, [], []⟩
def d_walk : He.DefD := ⟨("walk", none), "walk", "walk", defArgs s_walk, defBody s_walk, defScope s_walk, [], []⟩
def d__law_courses_right : He.DefD := ⟨("_law_courses_right", none), "_law_courses_right", "_law_courses_right", defArgs s__law_courses_right, defBody s__law_courses_right, defScope s__law_courses_right, [], []⟩
def d_forever : He.DefD := ⟨("forever", none), "forever", "forever", defArgs s_forever, defBody s_forever, defScope s_forever, [], []⟩
def d_can_go : He.DefD := ⟨("can_go", none), "can_go", "can_go", defArgs s_can_go, defBody s_can_go, defScope s_can_go, [], []⟩
def d_charges_in : He.DefD := ⟨("charges_in", none), "charges_in", "charges_in", defArgs s_charges_in, defBody s_charges_in, defScope s_charges_in, [], []⟩
def d_least_charges : He.DefD := ⟨("least_charges", none), "least_charges", "least_charges", defArgs s_least_charges, defBody s_least_charges, defScope s_least_charges, [], []⟩
def d_Needs___init__ : He.DefD := ⟨("Needs", some "__init__"), "__init__", "Needs.__init__", defArgs s_Needs___init__, defBody s_Needs___init__, defScope s_Needs___init__, [], []⟩
def d_needs : He.DefD := ⟨("needs", none), "needs", "needs", defArgs s_needs, defBody s_needs, defScope s_needs, [], []⟩
def d_Needs_shows : He.DefD := ⟨("Needs", some "shows"), "shows", "Needs.shows", defArgs s_Needs_shows, defBody s_Needs_shows, defScope s_Needs_shows, [], []⟩
def d__law_forever_right : He.DefD := ⟨("_law_forever_right", none), "_law_forever_right", "_law_forever_right", defArgs s__law_forever_right, defBody s__law_forever_right, defScope s__law_forever_right, [], []⟩
def d_best_end : He.DefD := ⟨("best_end", none), "best_end", "best_end", defArgs s_best_end, defBody s_best_end, defScope s_best_end, [], []⟩
def d_Soon___init__ : He.DefD := ⟨("Soon", some "__init__"), "__init__", "Soon.__init__", defArgs s_Soon___init__, defBody s_Soon___init__, defScope s_Soon___init__, [], []⟩
def d_soon : He.DefD := ⟨("soon", none), "soon", "soon", defArgs s_soon, defBody s_soon, defScope s_soon, [], []⟩
def d_soonest : He.DefD := ⟨("soonest", none), "soonest", "soonest", defArgs s_soonest, defBody s_soonest, defScope s_soonest, [], []⟩
def d__law_soon_right : He.DefD := ⟨("_law_soon_right", none), "_law_soon_right", "_law_soon_right", defArgs s__law_soon_right, defBody s__law_soon_right, defScope s__law_soon_right, [], []⟩
def d__law_towns : He.DefD := ⟨("_law_towns", none), "_law_towns", "_law_towns", defArgs s__law_towns, defBody s__law_towns, defScope s__law_towns, [], []⟩
def d_law : He.DefD := ⟨("law", none), "law", "law", defArgs s_law, defBody s_law, defScope s_law, [], []⟩
def d_Town_orders : GD := ⟨"Town", "orders", ⟨("", none), "orders", "Town.orders", defArgs s_Town_orders, defBody s_Town_orders, defScope s_Town_orders, [], []⟩⟩
def fn__0 : List He.DefD := [d_check_town, d_is_integer, d_check_place, d_all_states, d_is_new, d_stage_after, d_steps_at, d_courses_of, d_Game_lost, d_Game___init__, d_Rides___init__, d_Stalls___init__, d_Game_safe_from, d_forever_of, d_are_rows, d_is_pair, d_is_rising, d_is_road, d_Town___init__, d_with_battery]
def fn__1 : List He.DefD := [d_Battery___init__, d_battery, d_least_battery, d_does_carry, d_is_step, d_step_at, d_walked, d_end_of, d_are_closed, d_is_state, d_check_state, d_Rides_shows, d_is_plan, d_Stalls_shows, d_Soon_holds, d_Soon_shows, d_Battery_does_stall, d_Battery_shows, d__law_batteries_right, d_check_order]
def fn__2 : List He.DefD := [d_course_of, d_carries, d_course_to, d_ends, d_check_course, d_minutes, d_walk, d__law_courses_right, d_forever, d_can_go, d_charges_in, d_least_charges, d_Needs___init__, d_needs, d_Needs_shows, d__law_forever_right, d_best_end, d_Soon___init__, d_soon, d_soonest]
def fn__3 : List He.DefD := [d__law_soon_right, d__law_towns, d_law]
def fn_ : List He.DefD := fn__0 ++ fn__1 ++ fn__2 ++ fn__3
def gs__0 : List GD := [d_Town_orders]
def gs_ : List GD := gs__0
def fa__0 : List He.Fa := [.glo "check_town", .glo "is_integer", .glo "check_place", .glo "all_states", .glo "is_new", .glo "stage_after", .glo "steps_at", .glo "courses_of", .glo "forever_of", .glo "are_rows", .glo "is_pair", .glo "is_rising", .glo "is_road", .glo "with_battery", .glo "battery", .glo "least_battery", .glo "does_carry", .glo "is_step", .glo "step_at", .glo "walked"]
def fa__1 : List He.Fa := [.glo "end_of", .glo "are_closed", .glo "is_state", .glo "check_state", .glo "is_plan", .glo "_law_batteries_right", .glo "check_order", .glo "course_of", .glo "carries", .glo "course_to", .glo "ends", .glo "check_course", .glo "minutes", .glo "walk", .glo "_law_courses_right", .glo "forever", .glo "can_go", .glo "charges_in", .glo "least_charges", .glo "needs"]
def fa__2 : List He.Fa := [.glo "_law_forever_right", .glo "best_end", .glo "soon", .glo "soonest", .glo "_law_soon_right", .glo "_law_towns", .glo "law", .free "dict", .free "range", .free "isinstance", .free "bool", .free "int", .free "sorted", .free "enumerate", .free "all", .free "list", .free "len", .free "tuple", .free "zip", .free "str"]
def fa__3 : List He.Fa := [.free "max", .int "MAX_BATTERY" 8, .str "RIDE" "ride", .glo "CHARGE", .int "MAX_MINUTES" 10, .int "MAX_ORDERS" 4, .int "MAX_ROADS" 6, .int "MAX_PLACES" 4, .int "MAX_STEP" 3, .glo "Town", .cls "Town", .noat "Town" "many", .noat "Town" "ways", .noat "Town" "plugs", .noat "Town" "jobs", .noat "Town" "limit", .noat "Town" "full", .glo "Rides", .cls "Rides", .noat "Rides" "states"]
def fa__4 : List He.Fa := [.noat "Rides" "courses", .glo "Stalls", .cls "Stalls", .noat "Stalls" "plan", .glo "Game", .cls "Game", .noat "Game" "rows", .noat "Game" "plan", .glo "Battery", .cls "Battery", .noat "Battery" "number", .noat "Battery" "rides", .noat "Battery" "stalls", .glo "Needs", .cls "Needs", .noat "Needs" "charges", .noat "Needs" "states", .noat "Needs" "courses", .noat "Needs" "plan", .glo "Soon"]
def fa__5 : List He.Fa := [.cls "Soon", .noat "Soon" "number", .noat "Soon" "plan", .noat "Soon" "levels", .noat "Soon" "courses", .meth "Rides" "shows", .meth "Stalls" "shows", .meth "Battery" "shows", .meth "Soon" "shows", .meth "Game" "safe_from", .meth "Game" "lost", .meth "Battery" "does_stall", .meth "Soon" "holds", .meth "Needs" "shows", .mkr "Battery", .mkr "Game", .mkr "Needs", .mkr "Rides", .mkr "Soon", .mkr "Stalls"]
def fa__6 : List He.Fa := [.mkr "Town"]
def fa_ : List He.Fa := fa__0 ++ fa__1 ++ fa__2 ++ fa__3 ++ fa__4 ++ fa__5 ++ fa__6
def ob__0 : List (PySem.W.Frag → Bool) := [obIs (fun _ => .type "NoneType") (fun K => .ref (He.ga K "Rides")) false, obIs (fun _ => .type "bool") (fun K => .ref (He.ga K "Rides")) false, obIs (fun _ => .type "int") (fun K => .ref (He.ga K "Rides")) false, obIs (fun _ => .type "str") (fun K => .ref (He.ga K "Rides")) false, obIs (fun _ => .type "tuple") (fun K => .ref (He.ga K "Rides")) false, obIs (fun _ => .type "list") (fun K => .ref (He.ga K "Rides")) false, obIs (fun _ => .type "dict") (fun K => .ref (He.ga K "Rides")) false, obIs (fun K => .ref (He.ga K "Town")) (fun K => .ref (He.ga K "Rides")) false, obIs (fun K => .ref (He.ga K "Rides")) (fun K => .ref (He.ga K "Rides")) true, obIs (fun K => .ref (He.ga K "Stalls")) (fun K => .ref (He.ga K "Rides")) false, obIs (fun K => .ref (He.ga K "Game")) (fun K => .ref (He.ga K "Rides")) false, obIs (fun K => .ref (He.ga K "Battery")) (fun K => .ref (He.ga K "Rides")) false, obIs (fun K => .ref (He.ga K "Needs")) (fun K => .ref (He.ga K "Rides")) false, obIs (fun K => .ref (He.ga K "Soon")) (fun K => .ref (He.ga K "Rides")) false, obIs (fun _ => .type "NoneType") (fun K => .ref (He.ga K "Town")) false, obIs (fun _ => .type "bool") (fun K => .ref (He.ga K "Town")) false, obIs (fun _ => .type "int") (fun K => .ref (He.ga K "Town")) false, obIs (fun _ => .type "str") (fun K => .ref (He.ga K "Town")) false, obIs (fun _ => .type "tuple") (fun K => .ref (He.ga K "Town")) false, obIs (fun _ => .type "list") (fun K => .ref (He.ga K "Town")) false]
def ob__1 : List (PySem.W.Frag → Bool) := [obIs (fun _ => .type "dict") (fun K => .ref (He.ga K "Town")) false, obIs (fun K => .ref (He.ga K "Town")) (fun K => .ref (He.ga K "Town")) true, obIs (fun K => .ref (He.ga K "Rides")) (fun K => .ref (He.ga K "Town")) false, obIs (fun K => .ref (He.ga K "Stalls")) (fun K => .ref (He.ga K "Town")) false, obIs (fun K => .ref (He.ga K "Game")) (fun K => .ref (He.ga K "Town")) false, obIs (fun K => .ref (He.ga K "Battery")) (fun K => .ref (He.ga K "Town")) false, obIs (fun K => .ref (He.ga K "Needs")) (fun K => .ref (He.ga K "Town")) false, obIs (fun K => .ref (He.ga K "Soon")) (fun K => .ref (He.ga K "Town")) false, obIs (fun K => .ref (He.ga K "Town")) (fun _ => .type "bool") false, obIs (fun K => .ref (He.ga K "Rides")) (fun _ => .type "bool") false, obIs (fun K => .ref (He.ga K "Stalls")) (fun _ => .type "bool") false, obIs (fun K => .ref (He.ga K "Game")) (fun _ => .type "bool") false, obIs (fun K => .ref (He.ga K "Battery")) (fun _ => .type "bool") false, obIs (fun K => .ref (He.ga K "Needs")) (fun _ => .type "bool") false, obIs (fun K => .ref (He.ga K "Soon")) (fun _ => .type "bool") false, obIs (fun K => .ref (He.ga K "Town")) (fun _ => .type "int") false, obIs (fun K => .ref (He.ga K "Rides")) (fun _ => .type "int") false, obIs (fun K => .ref (He.ga K "Stalls")) (fun _ => .type "int") false, obIs (fun K => .ref (He.ga K "Game")) (fun _ => .type "int") false, obIs (fun K => .ref (He.ga K "Battery")) (fun _ => .type "int") false]
def ob__2 : List (PySem.W.Frag → Bool) := [obIs (fun K => .ref (He.ga K "Needs")) (fun _ => .type "int") false, obIs (fun K => .ref (He.ga K "Soon")) (fun _ => .type "int") false, obIs (fun K => .ref (He.ga K "Town")) (fun _ => .type "tuple") false, obIs (fun K => .ref (He.ga K "Rides")) (fun _ => .type "tuple") false, obIs (fun K => .ref (He.ga K "Stalls")) (fun _ => .type "tuple") false, obIs (fun K => .ref (He.ga K "Game")) (fun _ => .type "tuple") false, obIs (fun K => .ref (He.ga K "Battery")) (fun _ => .type "tuple") false, obIs (fun K => .ref (He.ga K "Needs")) (fun _ => .type "tuple") false, obIs (fun K => .ref (He.ga K "Soon")) (fun _ => .type "tuple") false, obIs (fun K => .ref (He.ga K "Town")) (fun _ => .type "str") false, obIs (fun K => .ref (He.ga K "Rides")) (fun _ => .type "str") false, obIs (fun K => .ref (He.ga K "Stalls")) (fun _ => .type "str") false, obIs (fun K => .ref (He.ga K "Game")) (fun _ => .type "str") false, obIs (fun K => .ref (He.ga K "Battery")) (fun _ => .type "str") false, obIs (fun K => .ref (He.ga K "Needs")) (fun _ => .type "str") false, obIs (fun K => .ref (He.ga K "Soon")) (fun _ => .type "str") false, obIs (fun _ => .type "NoneType") (fun K => .ref (He.ga K "Stalls")) false, obIs (fun _ => .type "bool") (fun K => .ref (He.ga K "Stalls")) false, obIs (fun _ => .type "int") (fun K => .ref (He.ga K "Stalls")) false, obIs (fun _ => .type "str") (fun K => .ref (He.ga K "Stalls")) false]
def ob__3 : List (PySem.W.Frag → Bool) := [obIs (fun _ => .type "tuple") (fun K => .ref (He.ga K "Stalls")) false, obIs (fun _ => .type "list") (fun K => .ref (He.ga K "Stalls")) false, obIs (fun _ => .type "dict") (fun K => .ref (He.ga K "Stalls")) false, obIs (fun K => .ref (He.ga K "Town")) (fun K => .ref (He.ga K "Stalls")) false, obIs (fun K => .ref (He.ga K "Rides")) (fun K => .ref (He.ga K "Stalls")) false, obIs (fun K => .ref (He.ga K "Stalls")) (fun K => .ref (He.ga K "Stalls")) true, obIs (fun K => .ref (He.ga K "Game")) (fun K => .ref (He.ga K "Stalls")) false, obIs (fun K => .ref (He.ga K "Battery")) (fun K => .ref (He.ga K "Stalls")) false, obIs (fun K => .ref (He.ga K "Needs")) (fun K => .ref (He.ga K "Stalls")) false, obIs (fun K => .ref (He.ga K "Soon")) (fun K => .ref (He.ga K "Stalls")) false, obIs (fun K => .ref (He.ga K "Town")) (fun _ => .type "list") false, obIs (fun K => .ref (He.ga K "Rides")) (fun _ => .type "list") false, obIs (fun K => .ref (He.ga K "Stalls")) (fun _ => .type "list") false, obIs (fun K => .ref (He.ga K "Game")) (fun _ => .type "list") false, obIs (fun K => .ref (He.ga K "Battery")) (fun _ => .type "list") false, obIs (fun K => .ref (He.ga K "Needs")) (fun _ => .type "list") false, obIs (fun K => .ref (He.ga K "Soon")) (fun _ => .type "list") false, obCl "Town", obCl "Rides", obCl "Stalls"]
def ob__4 : List (PySem.W.Frag → Bool) := [obCl "Game", obCl "Battery", obCl "Needs", obCl "Soon", (fun K => He.tupB K "CHARGE" [.str "charge"]), obPr "Town" "orders"]
def ob_ : List (PySem.W.Frag → Bool) := ob__0 ++ ob__1 ++ ob__2 ++ ob__3 ++ ob__4
abbrev SY (K : PySem.W.Frag) : Prop := SaysL fa_ fn_ ob_ gs_ K
structure HD (K : PySem.W.Frag) (mg : Str → Option Value) : Prop where
  ex : ∃ h : Heap, K.In h ∧ h.Ns mainGlobals mg
  c : SY K
section
variable {P : Program} {w : World} {K : PySem.W.Frag} {mg : Str → Option Value} {base : Heap}
theorem g_check_town (D : HD K mg) : mg "check_town" = some (.ref (He.ga K "check_town")) := let ⟨_, x, g⟩ := D.ex; He.glo_ok x g (D.c.d.fact 0 rfl)
theorem g_is_integer (D : HD K mg) : mg "is_integer" = some (.ref (He.ga K "is_integer")) := let ⟨_, x, g⟩ := D.ex; He.glo_ok x g (D.c.d.fact 1 rfl)
theorem g_check_place (D : HD K mg) : mg "check_place" = some (.ref (He.ga K "check_place")) := let ⟨_, x, g⟩ := D.ex; He.glo_ok x g (D.c.d.fact 2 rfl)
theorem g_all_states (D : HD K mg) : mg "all_states" = some (.ref (He.ga K "all_states")) := let ⟨_, x, g⟩ := D.ex; He.glo_ok x g (D.c.d.fact 3 rfl)
theorem g_is_new (D : HD K mg) : mg "is_new" = some (.ref (He.ga K "is_new")) := let ⟨_, x, g⟩ := D.ex; He.glo_ok x g (D.c.d.fact 4 rfl)
theorem g_stage_after (D : HD K mg) : mg "stage_after" = some (.ref (He.ga K "stage_after")) := let ⟨_, x, g⟩ := D.ex; He.glo_ok x g (D.c.d.fact 5 rfl)
theorem g_steps_at (D : HD K mg) : mg "steps_at" = some (.ref (He.ga K "steps_at")) := let ⟨_, x, g⟩ := D.ex; He.glo_ok x g (D.c.d.fact 6 rfl)
theorem g_courses_of (D : HD K mg) : mg "courses_of" = some (.ref (He.ga K "courses_of")) := let ⟨_, x, g⟩ := D.ex; He.glo_ok x g (D.c.d.fact 7 rfl)
theorem g_forever_of (D : HD K mg) : mg "forever_of" = some (.ref (He.ga K "forever_of")) := let ⟨_, x, g⟩ := D.ex; He.glo_ok x g (D.c.d.fact 8 rfl)
theorem g_are_rows (D : HD K mg) : mg "are_rows" = some (.ref (He.ga K "are_rows")) := let ⟨_, x, g⟩ := D.ex; He.glo_ok x g (D.c.d.fact 9 rfl)
theorem g_is_pair (D : HD K mg) : mg "is_pair" = some (.ref (He.ga K "is_pair")) := let ⟨_, x, g⟩ := D.ex; He.glo_ok x g (D.c.d.fact 10 rfl)
theorem g_is_rising (D : HD K mg) : mg "is_rising" = some (.ref (He.ga K "is_rising")) := let ⟨_, x, g⟩ := D.ex; He.glo_ok x g (D.c.d.fact 11 rfl)
theorem g_is_road (D : HD K mg) : mg "is_road" = some (.ref (He.ga K "is_road")) := let ⟨_, x, g⟩ := D.ex; He.glo_ok x g (D.c.d.fact 12 rfl)
theorem g_with_battery (D : HD K mg) : mg "with_battery" = some (.ref (He.ga K "with_battery")) := let ⟨_, x, g⟩ := D.ex; He.glo_ok x g (D.c.d.fact 13 rfl)
theorem g_battery (D : HD K mg) : mg "battery" = some (.ref (He.ga K "battery")) := let ⟨_, x, g⟩ := D.ex; He.glo_ok x g (D.c.d.fact 14 rfl)
theorem g_least_battery (D : HD K mg) : mg "least_battery" = some (.ref (He.ga K "least_battery")) := let ⟨_, x, g⟩ := D.ex; He.glo_ok x g (D.c.d.fact 15 rfl)
theorem g_does_carry (D : HD K mg) : mg "does_carry" = some (.ref (He.ga K "does_carry")) := let ⟨_, x, g⟩ := D.ex; He.glo_ok x g (D.c.d.fact 16 rfl)
theorem g_is_step (D : HD K mg) : mg "is_step" = some (.ref (He.ga K "is_step")) := let ⟨_, x, g⟩ := D.ex; He.glo_ok x g (D.c.d.fact 17 rfl)
theorem g_step_at (D : HD K mg) : mg "step_at" = some (.ref (He.ga K "step_at")) := let ⟨_, x, g⟩ := D.ex; He.glo_ok x g (D.c.d.fact 18 rfl)
theorem g_walked (D : HD K mg) : mg "walked" = some (.ref (He.ga K "walked")) := let ⟨_, x, g⟩ := D.ex; He.glo_ok x g (D.c.d.fact 19 rfl)
theorem g_end_of (D : HD K mg) : mg "end_of" = some (.ref (He.ga K "end_of")) := let ⟨_, x, g⟩ := D.ex; He.glo_ok x g (D.c.d.fact 20 rfl)
theorem g_are_closed (D : HD K mg) : mg "are_closed" = some (.ref (He.ga K "are_closed")) := let ⟨_, x, g⟩ := D.ex; He.glo_ok x g (D.c.d.fact 21 rfl)
theorem g_is_state (D : HD K mg) : mg "is_state" = some (.ref (He.ga K "is_state")) := let ⟨_, x, g⟩ := D.ex; He.glo_ok x g (D.c.d.fact 22 rfl)
theorem g_check_state (D : HD K mg) : mg "check_state" = some (.ref (He.ga K "check_state")) := let ⟨_, x, g⟩ := D.ex; He.glo_ok x g (D.c.d.fact 23 rfl)
theorem g_is_plan (D : HD K mg) : mg "is_plan" = some (.ref (He.ga K "is_plan")) := let ⟨_, x, g⟩ := D.ex; He.glo_ok x g (D.c.d.fact 24 rfl)
theorem g__law_batteries_right (D : HD K mg) : mg "_law_batteries_right" = some (.ref (He.ga K "_law_batteries_right")) := let ⟨_, x, g⟩ := D.ex; He.glo_ok x g (D.c.d.fact 25 rfl)
theorem g_check_order (D : HD K mg) : mg "check_order" = some (.ref (He.ga K "check_order")) := let ⟨_, x, g⟩ := D.ex; He.glo_ok x g (D.c.d.fact 26 rfl)
theorem g_course_of (D : HD K mg) : mg "course_of" = some (.ref (He.ga K "course_of")) := let ⟨_, x, g⟩ := D.ex; He.glo_ok x g (D.c.d.fact 27 rfl)
theorem g_carries (D : HD K mg) : mg "carries" = some (.ref (He.ga K "carries")) := let ⟨_, x, g⟩ := D.ex; He.glo_ok x g (D.c.d.fact 28 rfl)
theorem g_course_to (D : HD K mg) : mg "course_to" = some (.ref (He.ga K "course_to")) := let ⟨_, x, g⟩ := D.ex; He.glo_ok x g (D.c.d.fact 29 rfl)
theorem g_ends (D : HD K mg) : mg "ends" = some (.ref (He.ga K "ends")) := let ⟨_, x, g⟩ := D.ex; He.glo_ok x g (D.c.d.fact 30 rfl)
theorem g_check_course (D : HD K mg) : mg "check_course" = some (.ref (He.ga K "check_course")) := let ⟨_, x, g⟩ := D.ex; He.glo_ok x g (D.c.d.fact 31 rfl)
theorem g_minutes (D : HD K mg) : mg "minutes" = some (.ref (He.ga K "minutes")) := let ⟨_, x, g⟩ := D.ex; He.glo_ok x g (D.c.d.fact 32 rfl)
theorem g_walk (D : HD K mg) : mg "walk" = some (.ref (He.ga K "walk")) := let ⟨_, x, g⟩ := D.ex; He.glo_ok x g (D.c.d.fact 33 rfl)
theorem g__law_courses_right (D : HD K mg) : mg "_law_courses_right" = some (.ref (He.ga K "_law_courses_right")) := let ⟨_, x, g⟩ := D.ex; He.glo_ok x g (D.c.d.fact 34 rfl)
theorem g_forever (D : HD K mg) : mg "forever" = some (.ref (He.ga K "forever")) := let ⟨_, x, g⟩ := D.ex; He.glo_ok x g (D.c.d.fact 35 rfl)
theorem g_can_go (D : HD K mg) : mg "can_go" = some (.ref (He.ga K "can_go")) := let ⟨_, x, g⟩ := D.ex; He.glo_ok x g (D.c.d.fact 36 rfl)
theorem g_charges_in (D : HD K mg) : mg "charges_in" = some (.ref (He.ga K "charges_in")) := let ⟨_, x, g⟩ := D.ex; He.glo_ok x g (D.c.d.fact 37 rfl)
theorem g_least_charges (D : HD K mg) : mg "least_charges" = some (.ref (He.ga K "least_charges")) := let ⟨_, x, g⟩ := D.ex; He.glo_ok x g (D.c.d.fact 38 rfl)
theorem g_needs (D : HD K mg) : mg "needs" = some (.ref (He.ga K "needs")) := let ⟨_, x, g⟩ := D.ex; He.glo_ok x g (D.c.d.fact 39 rfl)
theorem g__law_forever_right (D : HD K mg) : mg "_law_forever_right" = some (.ref (He.ga K "_law_forever_right")) := let ⟨_, x, g⟩ := D.ex; He.glo_ok x g (D.c.d.fact 40 rfl)
theorem g_best_end (D : HD K mg) : mg "best_end" = some (.ref (He.ga K "best_end")) := let ⟨_, x, g⟩ := D.ex; He.glo_ok x g (D.c.d.fact 41 rfl)
theorem g_soon (D : HD K mg) : mg "soon" = some (.ref (He.ga K "soon")) := let ⟨_, x, g⟩ := D.ex; He.glo_ok x g (D.c.d.fact 42 rfl)
theorem g_soonest (D : HD K mg) : mg "soonest" = some (.ref (He.ga K "soonest")) := let ⟨_, x, g⟩ := D.ex; He.glo_ok x g (D.c.d.fact 43 rfl)
theorem g__law_soon_right (D : HD K mg) : mg "_law_soon_right" = some (.ref (He.ga K "_law_soon_right")) := let ⟨_, x, g⟩ := D.ex; He.glo_ok x g (D.c.d.fact 44 rfl)
theorem g__law_towns (D : HD K mg) : mg "_law_towns" = some (.ref (He.ga K "_law_towns")) := let ⟨_, x, g⟩ := D.ex; He.glo_ok x g (D.c.d.fact 45 rfl)
theorem g_law (D : HD K mg) : mg "law" = some (.ref (He.ga K "law")) := let ⟨_, x, g⟩ := D.ex; He.glo_ok x g (D.c.d.fact 46 rfl)
theorem g_dict (D : HD K mg) : mg "dict" = none := let ⟨_, x, g⟩ := D.ex; He.free_ok x g (D.c.d.fact 47 rfl)
theorem g_range (D : HD K mg) : mg "range" = none := let ⟨_, x, g⟩ := D.ex; He.free_ok x g (D.c.d.fact 48 rfl)
theorem g_isinstance (D : HD K mg) : mg "isinstance" = none := let ⟨_, x, g⟩ := D.ex; He.free_ok x g (D.c.d.fact 49 rfl)
theorem g_bool (D : HD K mg) : mg "bool" = none := let ⟨_, x, g⟩ := D.ex; He.free_ok x g (D.c.d.fact 50 rfl)
theorem g_int (D : HD K mg) : mg "int" = none := let ⟨_, x, g⟩ := D.ex; He.free_ok x g (D.c.d.fact 51 rfl)
theorem g_sorted (D : HD K mg) : mg "sorted" = none := let ⟨_, x, g⟩ := D.ex; He.free_ok x g (D.c.d.fact 52 rfl)
theorem g_enumerate (D : HD K mg) : mg "enumerate" = none := let ⟨_, x, g⟩ := D.ex; He.free_ok x g (D.c.d.fact 53 rfl)
theorem g_all (D : HD K mg) : mg "all" = none := let ⟨_, x, g⟩ := D.ex; He.free_ok x g (D.c.d.fact 54 rfl)
theorem g_list (D : HD K mg) : mg "list" = none := let ⟨_, x, g⟩ := D.ex; He.free_ok x g (D.c.d.fact 55 rfl)
theorem g_len (D : HD K mg) : mg "len" = none := let ⟨_, x, g⟩ := D.ex; He.free_ok x g (D.c.d.fact 56 rfl)
theorem g_tuple (D : HD K mg) : mg "tuple" = none := let ⟨_, x, g⟩ := D.ex; He.free_ok x g (D.c.d.fact 57 rfl)
theorem g_zip (D : HD K mg) : mg "zip" = none := let ⟨_, x, g⟩ := D.ex; He.free_ok x g (D.c.d.fact 58 rfl)
theorem g_str (D : HD K mg) : mg "str" = none := let ⟨_, x, g⟩ := D.ex; He.free_ok x g (D.c.d.fact 59 rfl)
theorem g_max (D : HD K mg) : mg "max" = none := let ⟨_, x, g⟩ := D.ex; He.free_ok x g (D.c.d.fact 60 rfl)
theorem bt_len : bootBuiltins "len" = some (.builtin "len") := by decide +kernel
theorem bt_all : bootBuiltins "all" = some (.builtin "all") := by decide +kernel
theorem bt_max : bootBuiltins "max" = some (.builtin "max") := by decide +kernel
theorem bt_sorted : bootBuiltins "sorted" = some (.builtin "sorted") := by decide +kernel
theorem bt_list : bootBuiltins "list" = some (.type "list") := by decide +kernel
theorem bt_tuple : bootBuiltins "tuple" = some (.type "tuple") := by decide +kernel
theorem bt_dict : bootBuiltins "dict" = some (.type "dict") := by decide +kernel
theorem bt_int : bootBuiltins "int" = some (.type "int") := by decide +kernel
theorem bt_bool : bootBuiltins "bool" = some (.type "bool") := by decide +kernel
theorem bt_str : bootBuiltins "str" = some (.type "str") := by decide +kernel
theorem g_Town (D : HD K mg) : mg "Town" = some (.ref (He.ga K "Town")) := let ⟨_, x, g⟩ := D.ex; He.glo_ok x g (D.c.d.fact 69 rfl)
theorem cl_Town (D : HD K mg) : Cls K (He.ga K "Town") := He.cls_ok (D.c.d.fact 70 rfl)
theorem ck_Town (D : HD K mg) : ClsK K (He.ga K "Town") := obCl_ok (cl_Town D) (D.c.ob 77 rfl)
theorem g_Rides (D : HD K mg) : mg "Rides" = some (.ref (He.ga K "Rides")) := let ⟨_, x, g⟩ := D.ex; He.glo_ok x g (D.c.d.fact 77 rfl)
theorem cl_Rides (D : HD K mg) : Cls K (He.ga K "Rides") := He.cls_ok (D.c.d.fact 78 rfl)
theorem ck_Rides (D : HD K mg) : ClsK K (He.ga K "Rides") := obCl_ok (cl_Rides D) (D.c.ob 78 rfl)
theorem g_Stalls (D : HD K mg) : mg "Stalls" = some (.ref (He.ga K "Stalls")) := let ⟨_, x, g⟩ := D.ex; He.glo_ok x g (D.c.d.fact 81 rfl)
theorem cl_Stalls (D : HD K mg) : Cls K (He.ga K "Stalls") := He.cls_ok (D.c.d.fact 82 rfl)
theorem ck_Stalls (D : HD K mg) : ClsK K (He.ga K "Stalls") := obCl_ok (cl_Stalls D) (D.c.ob 79 rfl)
theorem g_Game (D : HD K mg) : mg "Game" = some (.ref (He.ga K "Game")) := let ⟨_, x, g⟩ := D.ex; He.glo_ok x g (D.c.d.fact 84 rfl)
theorem cl_Game (D : HD K mg) : Cls K (He.ga K "Game") := He.cls_ok (D.c.d.fact 85 rfl)
theorem ck_Game (D : HD K mg) : ClsK K (He.ga K "Game") := obCl_ok (cl_Game D) (D.c.ob 80 rfl)
theorem g_Battery (D : HD K mg) : mg "Battery" = some (.ref (He.ga K "Battery")) := let ⟨_, x, g⟩ := D.ex; He.glo_ok x g (D.c.d.fact 88 rfl)
theorem cl_Battery (D : HD K mg) : Cls K (He.ga K "Battery") := He.cls_ok (D.c.d.fact 89 rfl)
theorem ck_Battery (D : HD K mg) : ClsK K (He.ga K "Battery") := obCl_ok (cl_Battery D) (D.c.ob 81 rfl)
theorem g_Needs (D : HD K mg) : mg "Needs" = some (.ref (He.ga K "Needs")) := let ⟨_, x, g⟩ := D.ex; He.glo_ok x g (D.c.d.fact 93 rfl)
theorem cl_Needs (D : HD K mg) : Cls K (He.ga K "Needs") := He.cls_ok (D.c.d.fact 94 rfl)
theorem ck_Needs (D : HD K mg) : ClsK K (He.ga K "Needs") := obCl_ok (cl_Needs D) (D.c.ob 82 rfl)
theorem g_Soon (D : HD K mg) : mg "Soon" = some (.ref (He.ga K "Soon")) := let ⟨_, x, g⟩ := D.ex; He.glo_ok x g (D.c.d.fact 99 rfl)
theorem cl_Soon (D : HD K mg) : Cls K (He.ga K "Soon") := He.cls_ok (D.c.d.fact 100 rfl)
theorem ck_Soon (D : HD K mg) : ClsK K (He.ga K "Soon") := obCl_ok (cl_Soon D) (D.c.ob 83 rfl)
theorem vr_MAX_BATTERY (D : HD K mg) (μ : List Addr) (H : Hp) : VRel K μ H v_MAX_BATTERY (.int 8) := rfl
theorem pe_k_MAX_BATTERY {X : Cx} {pos : Pos} (D : HD K mg) (hm : X.mg = mg) (hk : X.K = K) (hg : Gl X "MAX_BATTERY") : PE X (.Name "MAX_BATTERY" pos) (tC (.int 8)) := let ⟨_, x, g⟩ := D.ex; let ⟨t, h⟩ := He.int_ok x g (D.c.d.fact 61 rfl); pe_glob hg (by rw [hm]; exact h) ⟨t, rfl⟩
theorem vr_RIDE (D : HD K mg) (μ : List Addr) (H : Hp) : VRel K μ H v_RIDE (.str "ride") := congrArg _ hs_1.symm
theorem pe_k_RIDE {X : Cx} {pos : Pos} (D : HD K mg) (hm : X.mg = mg) (hk : X.K = K) (hg : Gl X "RIDE") : PE X (.Name "RIDE" pos) (tC (.str "ride")) := let ⟨_, x, g⟩ := D.ex; let ⟨t, h⟩ := He.str_ok x g (D.c.d.fact 62 rfl); pe_glob hg (by rw [hm]; exact h) ⟨t, rfl⟩
theorem g_CHARGE (D : HD K mg) : mg "CHARGE" = some (.ref (He.ga K "CHARGE")) := let ⟨_, x, g⟩ := D.ex; He.glo_ok x g (D.c.d.fact 63 rfl)
theorem vr_CHARGE (D : HD K mg) (μ : List Addr) (H : Hp) : VRel K μ H v_CHARGE (.ref (He.ga K "CHARGE")) := ⟨_, _, rfl, He.tupB_ok (vs := [.str "charge"]) (D.c.ob 84 rfl) H, _, _, rfl, congrArg _ hs_0.symm, rfl⟩
theorem pe_k_CHARGE {X : Cx} {pos : Pos} (D : HD K mg) (hm : X.mg = mg) (hk : X.K = K) (hg : Gl X "CHARGE") : PE X (.Name "CHARGE" pos) (tC (.ref (He.ga K "CHARGE"))) := pe_glob hg (by rw [hm]; exact g_CHARGE D) rfl
theorem vr_MAX_MINUTES (D : HD K mg) (μ : List Addr) (H : Hp) : VRel K μ H v_MAX_MINUTES (.int 10) := rfl
theorem pe_k_MAX_MINUTES {X : Cx} {pos : Pos} (D : HD K mg) (hm : X.mg = mg) (hk : X.K = K) (hg : Gl X "MAX_MINUTES") : PE X (.Name "MAX_MINUTES" pos) (tC (.int 10)) := let ⟨_, x, g⟩ := D.ex; let ⟨t, h⟩ := He.int_ok x g (D.c.d.fact 64 rfl); pe_glob hg (by rw [hm]; exact h) ⟨t, rfl⟩
theorem vr_MAX_ORDERS (D : HD K mg) (μ : List Addr) (H : Hp) : VRel K μ H v_MAX_ORDERS (.int 4) := rfl
theorem pe_k_MAX_ORDERS {X : Cx} {pos : Pos} (D : HD K mg) (hm : X.mg = mg) (hk : X.K = K) (hg : Gl X "MAX_ORDERS") : PE X (.Name "MAX_ORDERS" pos) (tC (.int 4)) := let ⟨_, x, g⟩ := D.ex; let ⟨t, h⟩ := He.int_ok x g (D.c.d.fact 65 rfl); pe_glob hg (by rw [hm]; exact h) ⟨t, rfl⟩
theorem vr_MAX_ROADS (D : HD K mg) (μ : List Addr) (H : Hp) : VRel K μ H v_MAX_ROADS (.int 6) := rfl
theorem pe_k_MAX_ROADS {X : Cx} {pos : Pos} (D : HD K mg) (hm : X.mg = mg) (hk : X.K = K) (hg : Gl X "MAX_ROADS") : PE X (.Name "MAX_ROADS" pos) (tC (.int 6)) := let ⟨_, x, g⟩ := D.ex; let ⟨t, h⟩ := He.int_ok x g (D.c.d.fact 66 rfl); pe_glob hg (by rw [hm]; exact h) ⟨t, rfl⟩
theorem vr_MAX_PLACES (D : HD K mg) (μ : List Addr) (H : Hp) : VRel K μ H v_MAX_PLACES (.int 4) := rfl
theorem pe_k_MAX_PLACES {X : Cx} {pos : Pos} (D : HD K mg) (hm : X.mg = mg) (hk : X.K = K) (hg : Gl X "MAX_PLACES") : PE X (.Name "MAX_PLACES" pos) (tC (.int 4)) := let ⟨_, x, g⟩ := D.ex; let ⟨t, h⟩ := He.int_ok x g (D.c.d.fact 67 rfl); pe_glob hg (by rw [hm]; exact h) ⟨t, rfl⟩
theorem vr_MAX_STEP (D : HD K mg) (μ : List Addr) (H : Hp) : VRel K μ H v_MAX_STEP (.int 3) := rfl
theorem pe_k_MAX_STEP {X : Cx} {pos : Pos} (D : HD K mg) (hm : X.mg = mg) (hk : X.K = K) (hg : Gl X "MAX_STEP") : PE X (.Name "MAX_STEP" pos) (tC (.int 3)) := let ⟨_, x, g⟩ := D.ex; let ⟨t, h⟩ := He.int_ok x g (D.c.d.fact 68 rfl); pe_glob hg (by rw [hm]; exact h) ⟨t, rfl⟩
theorem at_ok (D : HD K mg) : AtOk K (GG K) na := by
  intro c a h
  unfold na at h
  split at h
  · simp only [Bool.or_eq_true, nbeq] at h
    rcases h with (((((rfl | rfl) | rfl) | rfl) | rfl) | rfl)
    · exact ⟨cl_Town D, He.noat_ok (D.c.d.fact 71 rfl)⟩
    · exact ⟨cl_Town D, He.noat_ok (D.c.d.fact 72 rfl)⟩
    · exact ⟨cl_Town D, He.noat_ok (D.c.d.fact 73 rfl)⟩
    · exact ⟨cl_Town D, He.noat_ok (D.c.d.fact 74 rfl)⟩
    · exact ⟨cl_Town D, He.noat_ok (D.c.d.fact 75 rfl)⟩
    · exact ⟨cl_Town D, He.noat_ok (D.c.d.fact 76 rfl)⟩
  · simp only [Bool.or_eq_true, nbeq] at h
    rcases h with (rfl | rfl)
    · exact ⟨cl_Rides D, He.noat_ok (D.c.d.fact 79 rfl)⟩
    · exact ⟨cl_Rides D, He.noat_ok (D.c.d.fact 80 rfl)⟩
  · simp only [Bool.or_eq_true, nbeq] at h
    subst h
    · exact ⟨cl_Stalls D, He.noat_ok (D.c.d.fact 83 rfl)⟩
  · simp only [Bool.or_eq_true, nbeq] at h
    rcases h with (rfl | rfl)
    · exact ⟨cl_Game D, He.noat_ok (D.c.d.fact 86 rfl)⟩
    · exact ⟨cl_Game D, He.noat_ok (D.c.d.fact 87 rfl)⟩
  · simp only [Bool.or_eq_true, nbeq] at h
    rcases h with ((rfl | rfl) | rfl)
    · exact ⟨cl_Battery D, He.noat_ok (D.c.d.fact 90 rfl)⟩
    · exact ⟨cl_Battery D, He.noat_ok (D.c.d.fact 91 rfl)⟩
    · exact ⟨cl_Battery D, He.noat_ok (D.c.d.fact 92 rfl)⟩
  · simp only [Bool.or_eq_true, nbeq] at h
    rcases h with (((rfl | rfl) | rfl) | rfl)
    · exact ⟨cl_Needs D, He.noat_ok (D.c.d.fact 95 rfl)⟩
    · exact ⟨cl_Needs D, He.noat_ok (D.c.d.fact 96 rfl)⟩
    · exact ⟨cl_Needs D, He.noat_ok (D.c.d.fact 97 rfl)⟩
    · exact ⟨cl_Needs D, He.noat_ok (D.c.d.fact 98 rfl)⟩
  · simp only [Bool.or_eq_true, nbeq] at h
    rcases h with (((rfl | rfl) | rfl) | rfl)
    · exact ⟨cl_Soon D, He.noat_ok (D.c.d.fact 101 rfl)⟩
    · exact ⟨cl_Soon D, He.noat_ok (D.c.d.fact 102 rfl)⟩
    · exact ⟨cl_Soon D, He.noat_ok (D.c.d.fact 103 rfl)⟩
    · exact ⟨cl_Soon D, He.noat_ok (D.c.d.fact 104 rfl)⟩
  · cases h
theorem isi_Rides (D : HD K mg) : IsiT K (GG K) (.ref (He.ga K "Rides")) ai_Rides := by
  refine ⟨fun t b h => ?_, fun c b h => ?_⟩
  · have ht : t < 14 := by
      unfold ai_Rides at h
      by_cases z : t < 14
      · exact z
      · rw [if_neg (by rw [Nat.blt_eq]; omega)] at h; cases h
    match t, ht with
    | 0, _ => cases h; exact obIs_ok (D.c.ob 0 rfl)
    | 1, _ => cases h; exact obIs_ok (D.c.ob 1 rfl)
    | 2, _ => cases h; exact obIs_ok (D.c.ob 2 rfl)
    | 3, _ => cases h; exact obIs_ok (D.c.ob 3 rfl)
    | 4, _ => cases h; exact obIs_ok (D.c.ob 4 rfl)
    | 5, _ => cases h; exact obIs_ok (D.c.ob 5 rfl)
    | 6, _ => cases h; exact obIs_ok (D.c.ob 6 rfl)
    | 7, _ => cases h; exact obIs_ok (D.c.ob 7 rfl)
    | 8, _ => cases h; exact obIs_ok (D.c.ob 8 rfl)
    | 9, _ => cases h; exact obIs_ok (D.c.ob 9 rfl)
    | 10, _ => cases h; exact obIs_ok (D.c.ob 10 rfl)
    | 11, _ => cases h; exact obIs_ok (D.c.ob 11 rfl)
    | 12, _ => cases h; exact obIs_ok (D.c.ob 12 rfl)
    | 13, _ => cases h; exact obIs_ok (D.c.ob 13 rfl)
  · have hc : c < 7 := by
      unfold ai_Rides at h
      by_cases z : c < 7
      · exact z
      · rw [if_neg (by rw [Nat.blt_eq]; omega)] at h; cases h
    match c, hc with
    | 0, _ => exact ck_Town D
    | 1, _ => exact ck_Rides D
    | 2, _ => exact ck_Stalls D
    | 3, _ => exact ck_Game D
    | 4, _ => exact ck_Battery D
    | 5, _ => exact ck_Needs D
    | 6, _ => exact ck_Soon D
theorem isi_Town (D : HD K mg) : IsiT K (GG K) (.ref (He.ga K "Town")) ai_Town := by
  refine ⟨fun t b h => ?_, fun c b h => ?_⟩
  · have ht : t < 14 := by
      unfold ai_Town at h
      by_cases z : t < 14
      · exact z
      · rw [if_neg (by rw [Nat.blt_eq]; omega)] at h; cases h
    match t, ht with
    | 0, _ => cases h; exact obIs_ok (D.c.ob 14 rfl)
    | 1, _ => cases h; exact obIs_ok (D.c.ob 15 rfl)
    | 2, _ => cases h; exact obIs_ok (D.c.ob 16 rfl)
    | 3, _ => cases h; exact obIs_ok (D.c.ob 17 rfl)
    | 4, _ => cases h; exact obIs_ok (D.c.ob 18 rfl)
    | 5, _ => cases h; exact obIs_ok (D.c.ob 19 rfl)
    | 6, _ => cases h; exact obIs_ok (D.c.ob 20 rfl)
    | 7, _ => cases h; exact obIs_ok (D.c.ob 21 rfl)
    | 8, _ => cases h; exact obIs_ok (D.c.ob 22 rfl)
    | 9, _ => cases h; exact obIs_ok (D.c.ob 23 rfl)
    | 10, _ => cases h; exact obIs_ok (D.c.ob 24 rfl)
    | 11, _ => cases h; exact obIs_ok (D.c.ob 25 rfl)
    | 12, _ => cases h; exact obIs_ok (D.c.ob 26 rfl)
    | 13, _ => cases h; exact obIs_ok (D.c.ob 27 rfl)
  · have hc : c < 7 := by
      unfold ai_Town at h
      by_cases z : c < 7
      · exact z
      · rw [if_neg (by rw [Nat.blt_eq]; omega)] at h; cases h
    match c, hc with
    | 0, _ => exact ck_Town D
    | 1, _ => exact ck_Rides D
    | 2, _ => exact ck_Stalls D
    | 3, _ => exact ck_Game D
    | 4, _ => exact ck_Battery D
    | 5, _ => exact ck_Needs D
    | 6, _ => exact ck_Soon D
theorem isi_bool (D : HD K mg) : IsiT K (GG K) (.type "bool") ai_bool := by
  refine ⟨fun t b h => ?_, fun c b h => ?_⟩
  · have ht : t < 14 := by
      unfold ai_bool at h
      by_cases z : t < 14
      · exact z
      · rw [if_neg (by rw [Nat.blt_eq]; omega), if_neg (by rw [Nat.blt_eq]; omega)] at h; cases h
    match t, ht with
    | 0, _ => cases h; exact kit_ty (by decide +kernel)
    | 1, _ => cases h; exact kit_ty (by decide +kernel)
    | 2, _ => cases h; exact kit_ty (by decide +kernel)
    | 3, _ => cases h; exact kit_ty (by decide +kernel)
    | 4, _ => cases h; exact kit_ty (by decide +kernel)
    | 5, _ => cases h; exact kit_ty (by decide +kernel)
    | 6, _ => cases h; exact kit_ty (by decide +kernel)
    | 7, _ => cases h; exact obIs_ok (D.c.ob 28 rfl)
    | 8, _ => cases h; exact obIs_ok (D.c.ob 29 rfl)
    | 9, _ => cases h; exact obIs_ok (D.c.ob 30 rfl)
    | 10, _ => cases h; exact obIs_ok (D.c.ob 31 rfl)
    | 11, _ => cases h; exact obIs_ok (D.c.ob 32 rfl)
    | 12, _ => cases h; exact obIs_ok (D.c.ob 33 rfl)
    | 13, _ => cases h; exact obIs_ok (D.c.ob 34 rfl)
  · have hc : c < 7 := by
      unfold ai_bool at h
      by_cases z : c < 7
      · exact z
      · rw [if_neg (by rw [Nat.blt_eq]; omega), if_neg (by rw [Nat.blt_eq]; omega)] at h; cases h
    match c, hc with
    | 0, _ => exact ck_Town D
    | 1, _ => exact ck_Rides D
    | 2, _ => exact ck_Stalls D
    | 3, _ => exact ck_Game D
    | 4, _ => exact ck_Battery D
    | 5, _ => exact ck_Needs D
    | 6, _ => exact ck_Soon D
theorem isi_int (D : HD K mg) : IsiT K (GG K) (.type "int") ai_int := by
  refine ⟨fun t b h => ?_, fun c b h => ?_⟩
  · have ht : t < 14 := by
      unfold ai_int at h
      by_cases z : t < 14
      · exact z
      · rw [if_neg (by rw [Nat.blt_eq]; omega), if_neg (by rw [Nat.blt_eq]; omega)] at h; cases h
    match t, ht with
    | 0, _ => cases h; exact kit_ty (by decide +kernel)
    | 1, _ => cases h; exact kit_ty (by decide +kernel)
    | 2, _ => cases h; exact kit_ty (by decide +kernel)
    | 3, _ => cases h; exact kit_ty (by decide +kernel)
    | 4, _ => cases h; exact kit_ty (by decide +kernel)
    | 5, _ => cases h; exact kit_ty (by decide +kernel)
    | 6, _ => cases h; exact kit_ty (by decide +kernel)
    | 7, _ => cases h; exact obIs_ok (D.c.ob 35 rfl)
    | 8, _ => cases h; exact obIs_ok (D.c.ob 36 rfl)
    | 9, _ => cases h; exact obIs_ok (D.c.ob 37 rfl)
    | 10, _ => cases h; exact obIs_ok (D.c.ob 38 rfl)
    | 11, _ => cases h; exact obIs_ok (D.c.ob 39 rfl)
    | 12, _ => cases h; exact obIs_ok (D.c.ob 40 rfl)
    | 13, _ => cases h; exact obIs_ok (D.c.ob 41 rfl)
  · have hc : c < 7 := by
      unfold ai_int at h
      by_cases z : c < 7
      · exact z
      · rw [if_neg (by rw [Nat.blt_eq]; omega), if_neg (by rw [Nat.blt_eq]; omega)] at h; cases h
    match c, hc with
    | 0, _ => exact ck_Town D
    | 1, _ => exact ck_Rides D
    | 2, _ => exact ck_Stalls D
    | 3, _ => exact ck_Game D
    | 4, _ => exact ck_Battery D
    | 5, _ => exact ck_Needs D
    | 6, _ => exact ck_Soon D
theorem isi_tuple (D : HD K mg) : IsiT K (GG K) (.type "tuple") ai_tuple := by
  refine ⟨fun t b h => ?_, fun c b h => ?_⟩
  · have ht : t < 14 := by
      unfold ai_tuple at h
      by_cases z : t < 14
      · exact z
      · rw [if_neg (by rw [Nat.blt_eq]; omega), if_neg (by rw [Nat.blt_eq]; omega)] at h; cases h
    match t, ht with
    | 0, _ => cases h; exact kit_ty (by decide +kernel)
    | 1, _ => cases h; exact kit_ty (by decide +kernel)
    | 2, _ => cases h; exact kit_ty (by decide +kernel)
    | 3, _ => cases h; exact kit_ty (by decide +kernel)
    | 4, _ => cases h; exact kit_ty (by decide +kernel)
    | 5, _ => cases h; exact kit_ty (by decide +kernel)
    | 6, _ => cases h; exact kit_ty (by decide +kernel)
    | 7, _ => cases h; exact obIs_ok (D.c.ob 42 rfl)
    | 8, _ => cases h; exact obIs_ok (D.c.ob 43 rfl)
    | 9, _ => cases h; exact obIs_ok (D.c.ob 44 rfl)
    | 10, _ => cases h; exact obIs_ok (D.c.ob 45 rfl)
    | 11, _ => cases h; exact obIs_ok (D.c.ob 46 rfl)
    | 12, _ => cases h; exact obIs_ok (D.c.ob 47 rfl)
    | 13, _ => cases h; exact obIs_ok (D.c.ob 48 rfl)
  · have hc : c < 7 := by
      unfold ai_tuple at h
      by_cases z : c < 7
      · exact z
      · rw [if_neg (by rw [Nat.blt_eq]; omega), if_neg (by rw [Nat.blt_eq]; omega)] at h; cases h
    match c, hc with
    | 0, _ => exact ck_Town D
    | 1, _ => exact ck_Rides D
    | 2, _ => exact ck_Stalls D
    | 3, _ => exact ck_Game D
    | 4, _ => exact ck_Battery D
    | 5, _ => exact ck_Needs D
    | 6, _ => exact ck_Soon D
theorem isi_str (D : HD K mg) : IsiT K (GG K) (.type "str") ai_str := by
  refine ⟨fun t b h => ?_, fun c b h => ?_⟩
  · have ht : t < 14 := by
      unfold ai_str at h
      by_cases z : t < 14
      · exact z
      · rw [if_neg (by rw [Nat.blt_eq]; omega), if_neg (by rw [Nat.blt_eq]; omega)] at h; cases h
    match t, ht with
    | 0, _ => cases h; exact kit_ty (by decide +kernel)
    | 1, _ => cases h; exact kit_ty (by decide +kernel)
    | 2, _ => cases h; exact kit_ty (by decide +kernel)
    | 3, _ => cases h; exact kit_ty (by decide +kernel)
    | 4, _ => cases h; exact kit_ty (by decide +kernel)
    | 5, _ => cases h; exact kit_ty (by decide +kernel)
    | 6, _ => cases h; exact kit_ty (by decide +kernel)
    | 7, _ => cases h; exact obIs_ok (D.c.ob 49 rfl)
    | 8, _ => cases h; exact obIs_ok (D.c.ob 50 rfl)
    | 9, _ => cases h; exact obIs_ok (D.c.ob 51 rfl)
    | 10, _ => cases h; exact obIs_ok (D.c.ob 52 rfl)
    | 11, _ => cases h; exact obIs_ok (D.c.ob 53 rfl)
    | 12, _ => cases h; exact obIs_ok (D.c.ob 54 rfl)
    | 13, _ => cases h; exact obIs_ok (D.c.ob 55 rfl)
  · have hc : c < 7 := by
      unfold ai_str at h
      by_cases z : c < 7
      · exact z
      · rw [if_neg (by rw [Nat.blt_eq]; omega), if_neg (by rw [Nat.blt_eq]; omega)] at h; cases h
    match c, hc with
    | 0, _ => exact ck_Town D
    | 1, _ => exact ck_Rides D
    | 2, _ => exact ck_Stalls D
    | 3, _ => exact ck_Game D
    | 4, _ => exact ck_Battery D
    | 5, _ => exact ck_Needs D
    | 6, _ => exact ck_Soon D
theorem isi_Stalls (D : HD K mg) : IsiT K (GG K) (.ref (He.ga K "Stalls")) ai_Stalls := by
  refine ⟨fun t b h => ?_, fun c b h => ?_⟩
  · have ht : t < 14 := by
      unfold ai_Stalls at h
      by_cases z : t < 14
      · exact z
      · rw [if_neg (by rw [Nat.blt_eq]; omega)] at h; cases h
    match t, ht with
    | 0, _ => cases h; exact obIs_ok (D.c.ob 56 rfl)
    | 1, _ => cases h; exact obIs_ok (D.c.ob 57 rfl)
    | 2, _ => cases h; exact obIs_ok (D.c.ob 58 rfl)
    | 3, _ => cases h; exact obIs_ok (D.c.ob 59 rfl)
    | 4, _ => cases h; exact obIs_ok (D.c.ob 60 rfl)
    | 5, _ => cases h; exact obIs_ok (D.c.ob 61 rfl)
    | 6, _ => cases h; exact obIs_ok (D.c.ob 62 rfl)
    | 7, _ => cases h; exact obIs_ok (D.c.ob 63 rfl)
    | 8, _ => cases h; exact obIs_ok (D.c.ob 64 rfl)
    | 9, _ => cases h; exact obIs_ok (D.c.ob 65 rfl)
    | 10, _ => cases h; exact obIs_ok (D.c.ob 66 rfl)
    | 11, _ => cases h; exact obIs_ok (D.c.ob 67 rfl)
    | 12, _ => cases h; exact obIs_ok (D.c.ob 68 rfl)
    | 13, _ => cases h; exact obIs_ok (D.c.ob 69 rfl)
  · have hc : c < 7 := by
      unfold ai_Stalls at h
      by_cases z : c < 7
      · exact z
      · rw [if_neg (by rw [Nat.blt_eq]; omega)] at h; cases h
    match c, hc with
    | 0, _ => exact ck_Town D
    | 1, _ => exact ck_Rides D
    | 2, _ => exact ck_Stalls D
    | 3, _ => exact ck_Game D
    | 4, _ => exact ck_Battery D
    | 5, _ => exact ck_Needs D
    | 6, _ => exact ck_Soon D
theorem isi_list_tuple (D : HD K mg) : IsiT2 K (GG K) [.type "list", .type "tuple"] ai_list_tuple := by
  refine ⟨fun t b h => ?_, fun c b h => ?_⟩
  · have ht : t < 14 := by
      unfold ai_list_tuple at h
      by_cases z : t < 14
      · exact z
      · rw [if_neg (by rw [Nat.blt_eq]; omega), if_neg (by rw [Nat.blt_eq]; omega)] at h; cases h
    match t, ht with
    | 0, _ => cases h; first | exact kitAny_cons (b := true) (kit_ty (by decide +kernel)) (fun z => nomatch z) (fun _ => rfl) | exact kitAny_cons (b := false) (kit_ty (by decide +kernel)) (fun _ => kitAny_cons (b := true) (kit_ty (by decide +kernel)) (fun z => nomatch z) (fun _ => rfl)) (fun z => nomatch z) | exact kitAny_cons (b := false) (kit_ty (by decide +kernel)) (fun _ => kitAny_cons (b := false) (kit_ty (by decide +kernel)) (fun _ => kitAny_nil) (fun z => nomatch z)) (fun z => nomatch z)
    | 1, _ => cases h; first | exact kitAny_cons (b := true) (kit_ty (by decide +kernel)) (fun z => nomatch z) (fun _ => rfl) | exact kitAny_cons (b := false) (kit_ty (by decide +kernel)) (fun _ => kitAny_cons (b := true) (kit_ty (by decide +kernel)) (fun z => nomatch z) (fun _ => rfl)) (fun z => nomatch z) | exact kitAny_cons (b := false) (kit_ty (by decide +kernel)) (fun _ => kitAny_cons (b := false) (kit_ty (by decide +kernel)) (fun _ => kitAny_nil) (fun z => nomatch z)) (fun z => nomatch z)
    | 2, _ => cases h; first | exact kitAny_cons (b := true) (kit_ty (by decide +kernel)) (fun z => nomatch z) (fun _ => rfl) | exact kitAny_cons (b := false) (kit_ty (by decide +kernel)) (fun _ => kitAny_cons (b := true) (kit_ty (by decide +kernel)) (fun z => nomatch z) (fun _ => rfl)) (fun z => nomatch z) | exact kitAny_cons (b := false) (kit_ty (by decide +kernel)) (fun _ => kitAny_cons (b := false) (kit_ty (by decide +kernel)) (fun _ => kitAny_nil) (fun z => nomatch z)) (fun z => nomatch z)
    | 3, _ => cases h; first | exact kitAny_cons (b := true) (kit_ty (by decide +kernel)) (fun z => nomatch z) (fun _ => rfl) | exact kitAny_cons (b := false) (kit_ty (by decide +kernel)) (fun _ => kitAny_cons (b := true) (kit_ty (by decide +kernel)) (fun z => nomatch z) (fun _ => rfl)) (fun z => nomatch z) | exact kitAny_cons (b := false) (kit_ty (by decide +kernel)) (fun _ => kitAny_cons (b := false) (kit_ty (by decide +kernel)) (fun _ => kitAny_nil) (fun z => nomatch z)) (fun z => nomatch z)
    | 4, _ => cases h; first | exact kitAny_cons (b := true) (kit_ty (by decide +kernel)) (fun z => nomatch z) (fun _ => rfl) | exact kitAny_cons (b := false) (kit_ty (by decide +kernel)) (fun _ => kitAny_cons (b := true) (kit_ty (by decide +kernel)) (fun z => nomatch z) (fun _ => rfl)) (fun z => nomatch z) | exact kitAny_cons (b := false) (kit_ty (by decide +kernel)) (fun _ => kitAny_cons (b := false) (kit_ty (by decide +kernel)) (fun _ => kitAny_nil) (fun z => nomatch z)) (fun z => nomatch z)
    | 5, _ => cases h; first | exact kitAny_cons (b := true) (kit_ty (by decide +kernel)) (fun z => nomatch z) (fun _ => rfl) | exact kitAny_cons (b := false) (kit_ty (by decide +kernel)) (fun _ => kitAny_cons (b := true) (kit_ty (by decide +kernel)) (fun z => nomatch z) (fun _ => rfl)) (fun z => nomatch z) | exact kitAny_cons (b := false) (kit_ty (by decide +kernel)) (fun _ => kitAny_cons (b := false) (kit_ty (by decide +kernel)) (fun _ => kitAny_nil) (fun z => nomatch z)) (fun z => nomatch z)
    | 6, _ => cases h; first | exact kitAny_cons (b := true) (kit_ty (by decide +kernel)) (fun z => nomatch z) (fun _ => rfl) | exact kitAny_cons (b := false) (kit_ty (by decide +kernel)) (fun _ => kitAny_cons (b := true) (kit_ty (by decide +kernel)) (fun z => nomatch z) (fun _ => rfl)) (fun z => nomatch z) | exact kitAny_cons (b := false) (kit_ty (by decide +kernel)) (fun _ => kitAny_cons (b := false) (kit_ty (by decide +kernel)) (fun _ => kitAny_nil) (fun z => nomatch z)) (fun z => nomatch z)
    | 7, _ => cases h; exact kitAny_cons (b := false) (obIs_ok (D.c.ob 70 rfl)) (fun _ => kitAny_cons (b := false) (obIs_ok (D.c.ob 42 rfl)) (fun _ => kitAny_nil) (fun z => nomatch z)) (fun z => nomatch z)
    | 8, _ => cases h; exact kitAny_cons (b := false) (obIs_ok (D.c.ob 71 rfl)) (fun _ => kitAny_cons (b := false) (obIs_ok (D.c.ob 43 rfl)) (fun _ => kitAny_nil) (fun z => nomatch z)) (fun z => nomatch z)
    | 9, _ => cases h; exact kitAny_cons (b := false) (obIs_ok (D.c.ob 72 rfl)) (fun _ => kitAny_cons (b := false) (obIs_ok (D.c.ob 44 rfl)) (fun _ => kitAny_nil) (fun z => nomatch z)) (fun z => nomatch z)
    | 10, _ => cases h; exact kitAny_cons (b := false) (obIs_ok (D.c.ob 73 rfl)) (fun _ => kitAny_cons (b := false) (obIs_ok (D.c.ob 45 rfl)) (fun _ => kitAny_nil) (fun z => nomatch z)) (fun z => nomatch z)
    | 11, _ => cases h; exact kitAny_cons (b := false) (obIs_ok (D.c.ob 74 rfl)) (fun _ => kitAny_cons (b := false) (obIs_ok (D.c.ob 46 rfl)) (fun _ => kitAny_nil) (fun z => nomatch z)) (fun z => nomatch z)
    | 12, _ => cases h; exact kitAny_cons (b := false) (obIs_ok (D.c.ob 75 rfl)) (fun _ => kitAny_cons (b := false) (obIs_ok (D.c.ob 47 rfl)) (fun _ => kitAny_nil) (fun z => nomatch z)) (fun z => nomatch z)
    | 13, _ => cases h; exact kitAny_cons (b := false) (obIs_ok (D.c.ob 76 rfl)) (fun _ => kitAny_cons (b := false) (obIs_ok (D.c.ob 48 rfl)) (fun _ => kitAny_nil) (fun z => nomatch z)) (fun z => nomatch z)
  · have hc : c < 7 := by
      unfold ai_list_tuple at h
      by_cases z : c < 7
      · exact z
      · rw [if_neg (by rw [Nat.blt_eq]; omega), if_neg (by rw [Nat.blt_eq]; omega)] at h; cases h
    match c, hc with
    | 0, _ => exact ck_Town D
    | 1, _ => exact ck_Rides D
    | 2, _ => exact ck_Stalls D
    | 3, _ => exact ck_Game D
    | 4, _ => exact ck_Battery D
    | 5, _ => exact ck_Needs D
    | 6, _ => exact ck_Soon D
theorem fa_check_town (D : HD K mg) : FnA P w K mg base (GG K) 2 (He.ga K "check_town") f_check_town := by
  obtain ⟨fd, F⟩ := D.c.d.def_ 0 (d := d_check_town) rfl
  refine FnA.frame ?_
  refine ⟨fd, P_check_town, FunD.bindsN F fun _ _ _ _ _ _ us hl => match us, hl with | [_], _ => rfl, lBody_arity, fn_lt (N := N_check_town) (k := 1) F S_check_town fun cdv A outer s H E hr tk => ?_⟩
  exact (jb_one (js_if (jt_not (jt_val (je_isi (ClsV.own _) (isi_Town D) rfl (g_isinstance D) (je_var (pv 0)) (pe_glob rfl (g_Town D) rfl)))) (jb_one js_bad) jb_nil))
theorem fn_check_town (D : HD K mg) : FnG P w K mg base (GG K) 2 "check_town" f_check_town := ⟨_, g_check_town D, (let ⟨_, F⟩ := D.c.d.def_ 0 (d := d_check_town) rfl; F.kp), fa_check_town D⟩
theorem fa_is_integer (D : HD K mg) : FnA P w K mg base (GG K) 2 (He.ga K "is_integer") f_is_integer := by
  obtain ⟨fd, F⟩ := D.c.d.def_ 1 (d := d_is_integer) rfl
  refine FnA.frame ?_
  refine ⟨fd, P_is_integer, FunD.bindsN F fun _ _ _ _ _ _ us hl => match us, hl with | [_, _, _], _ => rfl, lBody_arity, fn_lt (N := N_is_integer) (k := 1) F S_is_integer fun cdv A outer s H E hr tk => ?_⟩
  exact (jb_one (js_ret (je_and (je_isi (ClsV.ty "int") (isi_int D) rfl (g_isinstance D) (je_var (pv 0)) (pe_bltn rfl (g_int D) bt_int rfl)) (je_and (je_not (je_isi (ClsV.ty "bool") (isi_bool D) rfl (g_isinstance D) (je_var (pv 0)) (pe_bltn rfl (g_bool D) bt_bool rfl))) (je_one (je_chain jo_le jo_le (je_var (pv 1)) (je_var (pv 0)) (je_var (pv 2))))))))
theorem fn_is_integer (D : HD K mg) : FnG P w K mg base (GG K) 2 "is_integer" f_is_integer := ⟨_, g_is_integer D, (let ⟨_, F⟩ := D.c.d.def_ 1 (d := d_is_integer) rfl; F.kp), fa_is_integer D⟩
theorem fa_check_place (D : HD K mg) : FnA P w K mg base (GG K) 3 (He.ga K "check_place") f_check_place := by
  obtain ⟨fd, F⟩ := D.c.d.def_ 2 (d := d_check_place) rfl
  refine FnA.frame ?_
  refine ⟨fd, P_check_place, FunD.bindsN F fun _ _ _ _ _ _ us hl => match us, hl with | [_, _], _ => rfl, lBody_arity, fn_lt (N := N_check_place) (k := 2) F S_check_place fun cdv A outer s H E hr tk => ?_⟩
  exact (jb_cons (js_expr (je_call tk (hr.mono (by decide)) rfl (fn_check_town D) (ja_cons (je_var (pv 0)) ja_nil))) (jb_frc (jb_one (js_if (jt_not (jt_val (je_call tk (hr.mono (by decide)) rfl (fn_is_integer D) (ja_cons (je_var (pv 1)) (ja_cons je_int (ja_cons (je_op jo_sub (je_fld (a := 0) (at_ok D) (je_var (pv 0))) je_int) ja_nil)))))) (jb_one js_bad) jb_nil))))
theorem fn_check_place (D : HD K mg) : FnG P w K mg base (GG K) 3 "check_place" f_check_place := ⟨_, g_check_place D, (let ⟨_, F⟩ := D.c.d.def_ 2 (d := d_check_place) rfl; F.kp), fa_check_place D⟩
theorem fa_all_states (D : HD K mg) : FnA P w K mg base (GG K) 2 (He.ga K "all_states") f_all_states := by
  obtain ⟨fd, F⟩ := D.c.d.def_ 3 (d := d_all_states) rfl
  refine FnA.frame ?_
  refine ⟨fd, P_all_states, FunD.bindsN F fun _ _ _ _ _ _ us hl => match us, hl with | [_], _ => rfl, lBody_arity, fn_lt (N := N_all_states) (k := 1) F S_all_states fun cdv A outer s H E hr tk => ?_⟩
  exact (jb_one (js_ret (je_lc2 (own := [("place", 1), ("charge", 2)]) (vs1 := [2]) rfl (S_all_states).nd (ji_range1 rfl (g_range D) (ja_cons (je_fld (a := 0) (at_ok D) (je_var (pv 0))) ja_nil)) (blkOk_by (N := N_all_states) (sc := defScope s_all_states) (by decide +kernel)) (by decide) (fun s H C cl fp => (jgc_name (i := 1) (pg_name (S_all_states).nd rfl (by first | exact Or.inl rfl | exact Or.inr rfl)) (by decide))) (fun s H C cl fp => jts_nil) (fun s H C cl fp => (ji_range1 rfl (g_range D) (ja_cons (je_op jo_add (je_fld (a := 5) (at_ok D) (je_var (pv 0))) je_int) ja_nil))) (fun s H C cl fp => (jgc_name (i := 2) (pg_name (S_all_states).nd rfl (by first | exact Or.inl rfl | exact Or.inr rfl)) (by decide))) (fun s H C cl fp => jts_nil) (fun s H C cl fp => (je_tup (ja_cons (je_var (pv 1)) (ja_cons (je_var (pv 2)) ja_nil)))))))
theorem fn_all_states (D : HD K mg) : FnG P w K mg base (GG K) 2 "all_states" f_all_states := ⟨_, g_all_states D, (let ⟨_, F⟩ := D.c.d.def_ 3 (d := d_all_states) rfl; F.kp), fa_all_states D⟩
theorem fa_is_new (D : HD K mg) : FnA P w K mg base (GG K) 2 (He.ga K "is_new") f_is_new := by
  obtain ⟨fd, F⟩ := D.c.d.def_ 4 (d := d_is_new) rfl
  refine ⟨fd, P_is_new, FunD.bindsN F fun _ _ _ _ _ _ us hl => match us, hl with | [_, _, _, _], _ => rfl, lBody_arity, fn_lt (N := N_is_new) (k := 1) F S_is_new fun cdv A outer s H E hr tk => ?_⟩
  exact (jb_cons (js_if (jt_cmp (jo_notIn (hu65 hr)) (je_var (pv 2)) (je_var (pv 0)) (by with_unfolding_all rfl)) (jb_one (js_ret je_bl)) jb_nil) (jb_frc (jb_cons (js_lc (own := [("at", 5), ("row", 6)]) (i := 4) rfl (S_is_new).nd rfl rfl (sw_true rfl rfl rfl rfl) (ji_items (je_var (pv 1))) (blkOk_by (N := N_is_new) (sc := defScope s_is_new) (by decide +kernel)) (fun s H C cl fp => (jgc_tup rfl (jgcs_cons (jgc_name (i := 5) (pg_name (S_is_new).nd rfl (by first | exact Or.inl rfl | exact Or.inr rfl)) (by decide)) (jgcs_cons (jgc_name (i := 6) (pg_name (S_is_new).nd rfl (by first | exact Or.inl rfl | exact Or.inr rfl)) (by decide)) jgcs_nil)))) (fun s H C cl fp => (jts_one (jt_w (jw_and (jt_cmp jo_gt (je_var (pv 5)) (je_var (pv 3)) (nomark _)) (jw_and1 (jt_cmp (jo_in (hu65 hr)) (je_var (pv 2)) (je_var (pv 6)) (by with_unfolding_all rfl))))))) (fun s H C cl fp => (je_var (pv 5)))) (jb_frc (jb_cons (js_for (passes_of rfl) rfl (ji_val (je_var (pv 4))) (jg_name (i := 5) (pg_name (S_is_new).nd rfl (by first | exact Or.inl rfl | exact Or.inr rfl))) (jb_frc (jb_one (js_expr (je_bm (t := 5) (.inr (.inl rfl)) PySem.F.plainAttrs_list PySem.F.slot_list_remove PySem.F.type_list_remove (jm_remove (hu70 hr)) (je_sub (hu64 hr) (je_var (pv 1)) (je_var (pv 5)) (by intro _ _; rfl)) (ja_cons (je_var (pv 2)) ja_nil)))))) (jb_frc (jb_one (js_ret (je_cmp (jo_ne2 (hu64 hr)) (je_var (pv 4)) (je_lst ja_nil) (nomark _))))))))))
theorem fn_is_new (D : HD K mg) : FnG P w K mg base (GG K) 2 "is_new" f_is_new := ⟨_, g_is_new D, (let ⟨_, F⟩ := D.c.d.def_ 4 (d := d_is_new) rfl; F.kp), fa_is_new D⟩
theorem fa_stage_after (D : HD K mg) : FnA P w K mg base (GG K) 2 (He.ga K "stage_after") f_stage_after := by
  obtain ⟨fd, F⟩ := D.c.d.def_ 5 (d := d_stage_after) rfl
  refine FnA.frame ?_
  refine ⟨fd, P_stage_after, FunD.bindsN F fun _ _ _ _ _ _ us hl => match us, hl with | [_, _, _], _ => rfl, lBody_arity, fn_lt (N := N_stage_after) (k := 1) F S_stage_after fun cdv A outer s H E hr tk => ?_⟩
  exact (jb_cons (js_if (jt_w (jw_and (jt_cmp (jo_eq2 (hu64 hr)) (je_var (pv 1)) je_int (nomark _)) (jw_and1 (jt_cmp (jo_eq2 (hu64 hr)) (je_var (pv 2)) (je_sub (hu64 hr) (je_var (pv 0)) je_int (by intro _ _; rfl)) (nomark _))))) (jb_one (js_ret je_int)) jb_nil) (jb_frc (jb_one (js_ret (je_if (jt_w (jw_and (jt_cmp (jo_eq2 (hu64 hr)) (je_var (pv 1)) je_int (nomark _)) (jw_and1 (jt_cmp (jo_eq2 (hu64 hr)) (je_var (pv 2)) (je_sub (hu64 hr) (je_var (pv 0)) je_int (by intro _ _; rfl)) (nomark _))))) je_int (je_var (pv 1)))))))
theorem fn_stage_after (D : HD K mg) : FnG P w K mg base (GG K) 2 "stage_after" f_stage_after := ⟨_, g_stage_after D, (let ⟨_, F⟩ := D.c.d.def_ 5 (d := d_stage_after) rfl; F.kp), fa_stage_after D⟩
theorem fa_steps_at (D : HD K mg) : FnA P w K mg base (GG K) 2 (He.ga K "steps_at") f_steps_at := by
  obtain ⟨fd, F⟩ := D.c.d.def_ 6 (d := d_steps_at) rfl
  refine FnA.frame ?_
  refine ⟨fd, P_steps_at, FunD.bindsN F fun _ _ _ _ _ _ us hl => match us, hl with | [_, _], _ => rfl, lBody_arity, fn_lt (N := N_steps_at) (k := 1) F S_steps_at fun cdv A outer s H E hr tk => ?_⟩
  exact (jb_cons (js_asg (je_var (pv 1)) (jg_tup rfl (jgs_cons (jg_name (i := 3) (pg_name (S_steps_at).nd rfl (by first | exact Or.inl rfl | exact Or.inr rfl))) (jgs_cons (jg_name (i := 4) (pg_name (S_steps_at).nd rfl (by first | exact Or.inl rfl | exact Or.inr rfl))) jgs_nil)))) (jb_frc (jb_cons (js_set (i := 2) (S_steps_at).nd rfl (by first | exact Or.inl rfl | exact Or.inr rfl) (je_lst ja_nil)) (jb_frc (jb_cons (js_if (jt_w (jw_and (jt_cmp (jo_in (hu65 hr)) (je_var (pv 3)) (je_fld (a := 2) (at_ok D) (je_var (pv 0))) (by with_unfolding_all rfl)) (jw_and1 (jt_cmp (jo_ltD (hu70 hr)) (je_var (pv 4)) (je_fld (a := 5) (at_ok D) (je_var (pv 0))) (nomark _))))) (jb_one (js_expr (je_bm (t := 5) (.inr (.inl rfl)) PySem.F.plainAttrs_list PySem.F.slot_list_append PySem.F.type_list_append jm_append (je_var (pv 2)) (ja_cons (je_tup (ja_cons (je_c (pe_k_CHARGE D rfl rfl rfl) (fun μ H => vr_CHARGE D μ H)) (ja_cons (je_tup (ja_cons (je_var (pv 3)) (ja_cons (je_op jo_add (je_var (pv 4)) je_int) ja_nil))) (ja_cons je_int ja_nil)))) ja_nil)))) jb_nil) (jb_frc (jb_cons (js_for (passes_of rfl) rfl (ji_enum rfl (g_enumerate D) (ja_cons (je_fld (a := 1) (at_ok D) (je_var (pv 0))) ja_nil)) (jg_tup rfl (jgs_cons (jg_name (i := 5) (pg_name (S_steps_at).nd rfl (by first | exact Or.inl rfl | exact Or.inr rfl))) (jgs_cons (jg_tup rfl (jgs_cons (jg_name (i := 6) (pg_name (S_steps_at).nd rfl (by first | exact Or.inl rfl | exact Or.inr rfl))) (jgs_cons (jg_name (i := 7) (pg_name (S_steps_at).nd rfl (by first | exact Or.inl rfl | exact Or.inr rfl))) (jgs_cons (jg_name (i := 8) (pg_name (S_steps_at).nd rfl (by first | exact Or.inl rfl | exact Or.inr rfl))) (jgs_cons (jg_name (i := 9) (pg_name (S_steps_at).nd rfl (by first | exact Or.inl rfl | exact Or.inr rfl))) jgs_nil))))) jgs_nil))) (jb_frc (jb_one (js_if (jt_w (jw_and (jt_cmp (jo_in (hu65 hr)) (je_var (pv 3)) (je_tup (ja_cons (je_var (pv 6)) (ja_cons (je_var (pv 7)) ja_nil))) (by with_unfolding_all rfl)) (jw_and1 (jt_cmp jo_ge (je_var (pv 4)) (je_var (pv 9)) (nomark _))))) (jb_cons (js_set (i := 10) (S_steps_at).nd rfl (by first | exact Or.inl rfl | exact Or.inr rfl) (je_if (jt_cmp (jo_eq2 (hu64 hr)) (je_var (pv 3)) (je_var (pv 6)) (nomark _)) (je_var (pv 7)) (je_var (pv 6)))) (jb_frc (jb_one (js_expr (je_bm (t := 5) (.inr (.inl rfl)) PySem.F.plainAttrs_list PySem.F.slot_list_append PySem.F.type_list_append jm_append (je_var (pv 2)) (ja_cons (je_tup (ja_cons (je_tup (ja_cons (je_c (pe_k_RIDE D rfl rfl rfl) (fun μ H => vr_RIDE D μ H)) (ja_cons (je_var (pv 5)) ja_nil))) (ja_cons (je_tup (ja_cons (je_var (pv 10)) (ja_cons (je_op jo_sub (je_var (pv 4)) (je_var (pv 9))) ja_nil))) (ja_cons (je_var (pv 8)) ja_nil)))) ja_nil)))))) jb_nil)))) (jb_frc (jb_one (js_ret (je_var (pv 2))))))))))))
theorem fn_steps_at (D : HD K mg) : FnG P w K mg base (GG K) 2 "steps_at" f_steps_at := ⟨_, g_steps_at D, (let ⟨_, F⟩ := D.c.d.def_ 6 (d := d_steps_at) rfl; F.kp), fa_steps_at D⟩
theorem fa_courses_of (D : HD K mg) : FnA P w K mg base (GG K) 3 (He.ga K "courses_of") f_courses_of := by
  obtain ⟨fd, F⟩ := D.c.d.def_ 7 (d := d_courses_of) rfl
  refine FnA.frame (FnA.memo tok_courses_of ?_)
  refine FnA.frame ?_
  refine ⟨fd, P_courses_of, FunD.bindsN F fun _ _ _ _ _ _ us hl => match us, hl with | [_, _, _], _ => rfl, lBody_arity, fn_lt (N := N_courses_of) (k := 2) F S_courses_of fun cdv A outer s H E hr tk => ?_⟩
  exact (jb_cons (js_set (i := 3) (S_courses_of).nd rfl (by first | exact Or.inl rfl | exact Or.inr rfl) (je_tup (ja_cons (je_var (pv 1)) (ja_cons (je_call tk (hr.mono (by decide)) rfl (fn_stage_after D) (ja_cons (je_var (pv 2)) (ja_cons je_int (ja_cons (je_sub (hu64 hr) (je_var (pv 1)) je_int (by intro _ _; rfl)) ja_nil)))) ja_nil)))) (jb_frc (jb_cons (js_par (ps_par (i := 6) (j := 7) rfl (S_courses_of).nd rfl rfl (by decide) rfl rfl (ja_cons (je_disp (hu64 hr) (jp_cons (je_var (pv 3)) (je_tup ja_nil) jp_nil)) (ja_cons (je_disp (hu64 hr) (jp_cons je_int (je_lst (ja_cons (je_var (pv 3)) ja_nil)) jp_nil)) ja_nil)) (by rfl))) (jb_frc (jb_cons (js_for (passes_of rfl) rfl (ji_range1 rfl (g_range D) (ja_cons (je_fld (a := 4) (at_ok D) (je_var (pv 0))) ja_nil)) (jg_name (i := 4) (pg_name (S_courses_of).nd rfl (by first | exact Or.inl rfl | exact Or.inr rfl))) (jb_frc (jb_one (js_for (passes_of rfl) rfl (ji_val (je_bm (t := 6) (.inr (.inr rfl)) PySem.F.plainAttrs_dict PySem.F.slot_dict_get PySem.F.type_dict_get (jm_get (hu64 hr)) (je_var (pv 7)) (ja_cons (je_var (pv 4)) (ja_cons (je_lst ja_nil) ja_nil)))) (jg_name (i := 8) (pg_name (S_courses_of).nd rfl (by first | exact Or.inl rfl | exact Or.inr rfl))) (jb_frc (jb_one (js_for (passes_of rfl) rfl (ji_val (je_call tk (hr.mono (by decide)) rfl (fn_steps_at D) (ja_cons (je_var (pv 0)) (ja_cons (je_sub (hu64 hr) (je_var (pv 8)) je_int (by intro _ _; rfl)) ja_nil)))) (jg_tup rfl (jgs_cons (jg_name (i := 10) (pg_name (S_courses_of).nd rfl (by first | exact Or.inl rfl | exact Or.inr rfl))) (jgs_cons (jg_name (i := 11) (pg_name (S_courses_of).nd rfl (by first | exact Or.inl rfl | exact Or.inr rfl))) (jgs_cons (jg_name (i := 12) (pg_name (S_courses_of).nd rfl (by first | exact Or.inl rfl | exact Or.inr rfl))) jgs_nil)))) (jb_frc (jb_cons (js_set (i := 9) (S_courses_of).nd rfl (by first | exact Or.inl rfl | exact Or.inr rfl) (je_tup (ja_cons (je_var (pv 11)) (ja_cons (je_call tk (hr.mono (by decide)) rfl (fn_stage_after D) (ja_cons (je_var (pv 2)) (ja_cons (je_sub (hu64 hr) (je_var (pv 8)) je_int (by intro _ _; rfl)) (ja_cons (je_sub (hu64 hr) (je_var (pv 11)) je_int (by intro _ _; rfl)) ja_nil)))) ja_nil)))) (jb_frc (jb_one (js_if (jt_w (jw_and (jt_cmp jo_le (je_op jo_add (je_var (pv 4)) (je_var (pv 12))) (je_fld (a := 4) (at_ok D) (je_var (pv 0))) (nomark _)) (jw_and1 (jt_val (je_call tk (hr.mono (by decide)) rfl (fn_is_new D) (ja_cons (je_var (pv 6)) (ja_cons (je_var (pv 7)) (ja_cons (je_var (pv 9)) (ja_cons (je_op jo_add (je_var (pv 4)) (je_var (pv 12))) ja_nil))))))))) (jb_cons (js_asg (je_tup (ja_star (je_sub (hu64 hr) (je_var (pv 6)) (je_var (pv 8)) (by intro _ _; rfl)) (ja_cons (je_var (pv 10)) ja_nil))) (jg_sub (W := W0) (hu64 hr) (je_var (pv 6)) (je_var (pv 9)))) (jb_frc (jb_one (js_expr (je_bm (t := 5) (.inr (.inl rfl)) PySem.F.plainAttrs_list PySem.F.slot_list_append PySem.F.type_list_append jm_append (je_bm (t := 6) (.inr (.inr rfl)) PySem.F.plainAttrs_dict PySem.F.slot_dict_setdefault PySem.F.type_dict_setdefault (jm_setdefault (hu64 hr)) (je_var (pv 7)) (ja_cons (je_op jo_add (je_var (pv 4)) (je_var (pv 12))) (ja_cons (je_lst ja_nil) ja_nil))) (ja_cons (je_var (pv 9)) ja_nil)))))) jb_nil)))))))))))) (jb_frc (jb_cons (js_set (i := 5) (S_courses_of).nd rfl (by first | exact Or.inl rfl | exact Or.inr rfl) (je_dc (own := [("end", 9), ("course", 13)]) (hu64 hr) rfl (S_courses_of).nd (ji_items (je_var (pv 6))) (blkOk_by (N := N_courses_of) (sc := defScope s_courses_of) (by decide +kernel)) (fun s H C cl fp => (jgc_tup rfl (jgcs_cons (jgc_name (i := 9) (pg_name (S_courses_of).nd rfl (by first | exact Or.inl rfl | exact Or.inr rfl)) (by decide)) (jgcs_cons (jgc_name (i := 13) (pg_name (S_courses_of).nd rfl (by first | exact Or.inl rfl | exact Or.inr rfl)) (by decide)) jgcs_nil)))) (fun s H C cl fp => (jts_one (jt_cmp (jo_eq2 (hu64 hr)) (je_sub (hu64 hr) (je_var (pv 9)) je_int (by intro _ _; rfl)) je_int (nomark _)))) (fun s H C cl fp => (je_sub (hu64 hr) (je_var (pv 9)) je_int (by intro _ _; rfl))) (fun s H C cl fp => (je_var (pv 13))))) (jb_frc (jb_one (js_ret (je_dc (own := [("end", 9)]) (hu64 hr) rfl (S_courses_of).nd (ji_val (je_callB (jc_sorted rfl (hu70 hr)) rfl (g_sorted D) bt_sorted (ja_cons (je_var (pv 5)) ja_nil))) (blkOk_by (N := N_courses_of) (sc := defScope s_courses_of) (by decide +kernel)) (fun s H C cl fp => (jgc_name (i := 9) (pg_name (S_courses_of).nd rfl (by first | exact Or.inl rfl | exact Or.inr rfl)) (by decide))) (fun s H C cl fp => jts_nil) (fun s H C cl fp => (je_var (pv 9))) (fun s H C cl fp => (je_sub (hu64 hr) (je_var (pv 5)) (je_var (pv 9)) (by intro _ _; rfl))))))))))))))
theorem fn_courses_of (D : HD K mg) : FnG P w K mg base (GG K) 3 "courses_of" f_courses_of := ⟨_, g_courses_of D, (let ⟨_, F⟩ := D.c.d.def_ 7 (d := d_courses_of) rfl; F.kp), fa_courses_of D⟩
theorem fa_Game_lost (D : HD K mg) : FnA P w K mg base (GG K) 2 (He.ma K (He.ga K "Game") "lost") f_Game_lost := by
  obtain ⟨fd, F⟩ := D.c.d.def_ 8 (d := d_Game_lost) rfl
  refine FnA.frame (FnA.memo tok_Game_lost ?_)
  refine FnA.frame ?_
  refine ⟨fd, P_Game_lost, FunD.bindsN F fun _ _ _ _ _ _ us hl => match us, hl with | [_, _], _ => rfl, lBody_arity, fn_lt (N := N_Game_lost) (k := 1) F S_Game_lost fun cdv A outer s H E hr tk => ?_⟩
  exact (jb_cons (js_set (i := 2) (S_Game_lost).nd rfl (by first | exact Or.inl rfl | exact Or.inr rfl) je_dnew) (jb_frc (jb_cons (js_for (passes_of rfl) rfl (ji_items (je_fld (a := 9) (at_ok D) (je_var (pv 0)))) (jg_tup rfl (jgs_cons (jg_name (i := 3) (pg_name (S_Game_lost).nd rfl (by first | exact Or.inl rfl | exact Or.inr rfl))) (jgs_cons (jg_name (i := 4) (pg_name (S_Game_lost).nd rfl (by first | exact Or.inl rfl | exact Or.inr rfl))) jgs_nil))) (jb_frc (jb_cons (js_lc (own := [("order", 6), ("courses", 7)]) (i := 5) rfl (S_Game_lost).nd rfl rfl (sw_true rfl rfl rfl rfl) (ji_items (je_var (pv 4))) (blkOk_by (N := N_Game_lost) (sc := defScope s_Game_lost) (by decide +kernel)) (fun s H C cl fp => (jgc_tup rfl (jgcs_cons (jgc_name (i := 6) (pg_name (S_Game_lost).nd rfl (by first | exact Or.inl rfl | exact Or.inr rfl)) (by decide)) (jgcs_cons (jgc_name (i := 7) (pg_name (S_Game_lost).nd rfl (by first | exact Or.inl rfl | exact Or.inr rfl)) (by decide)) jgcs_nil)))) (fun s H C cl fp => (jts_one (jt_val (je_callB (jc_all rfl) rfl (g_all D) bt_all (ja_cons (je_lc (own := [("end", 8)]) rfl (S_Game_lost).nd (ji_val (je_var (pv 7))) (blkOk_by (by rfl)) (fun s H C cl fp => (jgc_name (i := 8) (pg_name (S_Game_lost).nd rfl (by first | exact Or.inl rfl | exact Or.inr rfl)) (by decide))) (fun s H C cl fp => jts_nil) (fun s H C cl fp => (je_cmp (jo_in (hu65 hr)) (je_var (pv 8)) (je_fld (a := 8) (at_ok D) (je_var (pv 0))) (by with_unfolding_all rfl)))) ja_nil))))) (fun s H C cl fp => (je_var (pv 6)))) (jb_frc (jb_one (js_if (jt_w (jw_and (jt_cmp (jo_notIn (hu65 hr)) (je_var (pv 3)) (je_fld (a := 8) (at_ok D) (je_var (pv 0))) (by with_unfolding_all rfl)) (jw_and1 (jt_cmp (jo_ne2 (hu64 hr)) (je_var (pv 5)) (je_lst ja_nil) (nomark _))))) (jb_one (js_asg (je_tup (ja_cons (je_var (pv 1)) (ja_cons (je_sub (hu64 hr) (je_var (pv 5)) je_int (by intro _ _; rfl)) ja_nil))) (jg_sub (W := W0) (hu64 hr) (je_var (pv 2)) (je_var (pv 3))))) jb_nil)))))) (jb_frc (jb_one (js_ret (je_var (pv 2))))))))
theorem mok_lost_3 (D : HD K mg) : MtOk P w K mg base (GG K) 2 "lost" mt_lost_3 := by
  intro c f h
  unfold mt_lost_3 at h
  split at h
  · cases h; exact ⟨cl_Game D, _, He.meth_ok (D.c.d.fact 110 rfl), (fa_Game_lost D).mono (by decide)⟩
  · cases h
theorem fa_Game___init__ (D : HD K mg) : FnA P w K mg base (GG K) 4 (He.ma K (He.ga K "Game") "__init__") f_Game___init__ := by
  obtain ⟨fd, F⟩ := D.c.d.def_ 9 (d := d_Game___init__) rfl
  refine FnA.frame (FnA.memo tok_Game___init__ ?_)
  refine FnA.frame ?_
  refine ⟨fd, P_Game___init__, FunD.bindsN F fun _ _ _ _ _ _ us hl => match us, hl with | [_, _], _ => rfl, lBody_arity, fn_lt (N := N_Game___init__) (k := 3) F S_Game___init__ fun cdv A outer s H E hr tk => ?_⟩
  exact (jb_cons (js_fld (a := 9) (at_ok D) (je_var (pv 0)) je_dnew) (jb_frc (jb_cons (js_for (passes_of rfl) rfl (ji_val (je_call tk (hr.mono (by decide)) rfl (fn_all_states D) (ja_cons (je_var (pv 1)) ja_nil))) (jg_name (i := 2) (pg_name (S_Game___init__).nd rfl (by first | exact Or.inl rfl | exact Or.inr rfl))) (jb_frc (jb_one (js_asg (je_dc (own := [("order", 5)]) (hu64 hr) rfl (S_Game___init__).nd (ji_val (je_fld (a := 3) (at_ok D) (je_var (pv 1)))) (blkOk_by (N := N_Game___init__) (sc := defScope s_Game___init__) (by decide +kernel)) (fun s H C cl fp => (jgc_name (i := 5) (pg_name (S_Game___init__).nd rfl (by first | exact Or.inl rfl | exact Or.inr rfl)) (by decide))) (fun s H C cl fp => jts_nil) (fun s H C cl fp => (je_var (pv 5))) (fun s H C cl fp => (je_call takes0 (hr.mono (by decide)) rfl (fn_courses_of D) (ja_cons (je_var (pv 1)) (ja_cons (je_var (pv 2)) (ja_cons (je_var (pv 5)) ja_nil)))))) (jg_sub (W := W0) (hu64 hr) (je_fld (a := 9) (at_ok D) (je_var (pv 0))) (je_var (pv 2))))))) (jb_frc (jb_cons (js_fld (a := 8) (at_ok D) (je_var (pv 0)) je_dnew) (jb_frc (jb_cons (js_par (ps_par (i := 3) (j := 4) rfl (S_Game___init__).nd rfl rfl (by decide) rfl rfl (ja_cons je_int (ja_cons (je_meth (a := 19) tk (hr.mono (by decide)) (mok_lost_3 D) (je_var (pv 0)) (ja_cons je_int ja_nil)) ja_nil)) (by rfl))) (jb_frc (jb_one (js_while (n := 1000) (passes_of rfl) (jt_cmp (jo_ne2 (hu64 hr)) (je_var (pv 4)) je_dnew (nomark _)) (jb_frc (jb_cons (js_expr (je_bm (t := 6) (.inr (.inr rfl)) PySem.F.plainAttrs_dict PySem.F.slot_dict_update PySem.F.type_dict_update (jm_update (hu64 hr)) (je_fld (a := 8) (at_ok D) (je_var (pv 0))) (ja_cons (je_var (pv 4)) ja_nil))) (jb_frc (jb_cons (js_aug (i := 3) (S_Game___init__).nd rfl (by first | exact Or.inl rfl | exact Or.inr rfl) je_int) (jb_frc (jb_one (js_set (i := 4) (S_Game___init__).nd rfl (by first | exact Or.inl rfl | exact Or.inr rfl) (je_meth (a := 19) tk (hr.mono (by decide)) (mok_lost_3 D) (je_var (pv 0)) (ja_cons (je_var (pv 3)) ja_nil)))))))))))))))))))
theorem mk_Game (D : HD K mg) : MkOk P w K mg base (GG K) 4 "Game" 3 f_Game___init__ := ⟨g_Game D, _, He.mkr_ok (D.c.d.fact 115 rfl), fa_Game___init__ D⟩
theorem fa_Rides___init__ (D : HD K mg) : FnA P w K mg base (GG K) 2 (He.ma K (He.ga K "Rides") "__init__") f_Rides___init__ := by
  obtain ⟨fd, F⟩ := D.c.d.def_ 10 (d := d_Rides___init__) rfl
  refine FnA.frame ?_
  refine ⟨fd, P_Rides___init__, FunD.bindsN F fun _ _ _ _ _ _ us hl => match us, hl with | [_, _, _], _ => rfl, lBody_arity, fn_lt (N := N_Rides___init__) (k := 1) F S_Rides___init__ fun cdv A outer s H E hr tk => ?_⟩
  exact (jb_cons (js_fld (a := 6) (at_ok D) (je_var (pv 0)) (je_callTy (jc_list rfl) rfl (g_list D) bt_list (ja_cons (je_var (pv 1)) ja_nil))) (jb_frc (jb_one (js_fld (a := 7) (at_ok D) (je_var (pv 0)) (je_dc (own := [("pair", 3), ("course", 4)]) (hu64 hr) rfl (S_Rides___init__).nd (ji_items (je_var (pv 2))) (blkOk_by (N := N_Rides___init__) (sc := defScope s_Rides___init__) (by decide +kernel)) (fun s H C cl fp => (jgc_tup rfl (jgcs_cons (jgc_name (i := 3) (pg_name (S_Rides___init__).nd rfl (by first | exact Or.inl rfl | exact Or.inr rfl)) (by decide)) (jgcs_cons (jgc_name (i := 4) (pg_name (S_Rides___init__).nd rfl (by first | exact Or.inl rfl | exact Or.inr rfl)) (by decide)) jgcs_nil)))) (fun s H C cl fp => jts_nil) (fun s H C cl fp => (je_var (pv 3))) (fun s H C cl fp => (je_var (pv 4))))))))
theorem mk_Rides (D : HD K mg) : MkOk P w K mg base (GG K) 2 "Rides" 1 f_Rides___init__ := ⟨g_Rides D, _, He.mkr_ok (D.c.d.fact 117 rfl), fa_Rides___init__ D⟩
theorem fa_Stalls___init__ (D : HD K mg) : FnA P w K mg base (GG K) 2 (He.ma K (He.ga K "Stalls") "__init__") f_Stalls___init__ := by
  obtain ⟨fd, F⟩ := D.c.d.def_ 11 (d := d_Stalls___init__) rfl
  refine FnA.frame ?_
  refine ⟨fd, P_Stalls___init__, FunD.bindsN F fun _ _ _ _ _ _ us hl => match us, hl with | [_, _], _ => rfl, lBody_arity, fn_lt (N := N_Stalls___init__) (k := 1) F S_Stalls___init__ fun cdv A outer s H E hr tk => ?_⟩
  exact (jb_one (js_fld (a := 8) (at_ok D) (je_var (pv 0)) (je_dc (own := [("state", 2), ("row", 3)]) (hu64 hr) rfl (S_Stalls___init__).nd (ji_items (je_var (pv 1))) (blkOk_by (N := N_Stalls___init__) (sc := defScope s_Stalls___init__) (by decide +kernel)) (fun s H C cl fp => (jgc_tup rfl (jgcs_cons (jgc_name (i := 2) (pg_name (S_Stalls___init__).nd rfl (by first | exact Or.inl rfl | exact Or.inr rfl)) (by decide)) (jgcs_cons (jgc_name (i := 3) (pg_name (S_Stalls___init__).nd rfl (by first | exact Or.inl rfl | exact Or.inr rfl)) (by decide)) jgcs_nil)))) (fun s H C cl fp => jts_nil) (fun s H C cl fp => (je_var (pv 2))) (fun s H C cl fp => (je_var (pv 3))))))
theorem mk_Stalls (D : HD K mg) : MkOk P w K mg base (GG K) 2 "Stalls" 2 f_Stalls___init__ := ⟨g_Stalls D, _, He.mkr_ok (D.c.d.fact 119 rfl), fa_Stalls___init__ D⟩
theorem fa_Game_safe_from (D : HD K mg) : FnA P w K mg base (GG K) 2 (He.ma K (He.ga K "Game") "safe_from") f_Game_safe_from := by
  obtain ⟨fd, F⟩ := D.c.d.def_ 12 (d := d_Game_safe_from) rfl
  refine FnA.frame ?_
  refine ⟨fd, P_Game_safe_from, FunD.bindsN F fun _ _ _ _ _ _ us hl => match us, hl with | [_, _], _ => rfl, lBody_arity, fn_lt (N := N_Game_safe_from) (k := 1) F S_Game_safe_from fun cdv A outer s H E hr tk => ?_⟩
  exact (jb_cons (js_par3 (ps_par3 (i := 2) (j := 3) (l := 4) rfl (S_Game_safe_from).nd rfl rfl rfl (by decide) (by decide) (by decide) rfl rfl rfl (ja_cons (je_dc (own := [("state", 5)]) (hu64 hr) rfl (S_Game_safe_from).nd (ji_val (je_var (pv 1))) (blkOk_by (N := N_Game_safe_from) (sc := defScope s_Game_safe_from) (by decide +kernel)) (fun s H C cl fp => (jgc_name (i := 5) (pg_name (S_Game_safe_from).nd rfl (by first | exact Or.inl rfl | exact Or.inr rfl)) (by decide))) (fun s H C cl fp => jts_nil) (fun s H C cl fp => (je_var (pv 5))) (fun s H C cl fp => je_bl)) (ja_cons (je_callTy (jc_list rfl) rfl (g_list D) bt_list (ja_cons (je_var (pv 1)) ja_nil)) (ja_cons je_dnew ja_nil))) (by rfl))) (jb_frc (jb_cons (js_while (n := 1000) (passes_of rfl) (jt_cmp (jo_ne2 (hu64 hr)) (je_var (pv 3)) (je_lst ja_nil) (nomark _)) (jb_frc (jb_cons (js_set (i := 5) (S_Game_safe_from).nd rfl (by first | exact Or.inl rfl | exact Or.inr rfl) (je_bm (t := 5) (.inr (.inl rfl)) PySem.F.plainAttrs_list PySem.F.slot_list_pop PySem.F.type_list_pop jm_pop (je_var (pv 3)) (ja_cons je_int ja_nil))) (jb_frc (jb_one (js_for (passes_of rfl) rfl (ji_items (je_sub (hu64 hr) (je_fld (a := 9) (at_ok D) (je_var (pv 0))) (je_var (pv 5)) (by intro _ _; rfl))) (jg_tup rfl (jgs_cons (jg_name (i := 6) (pg_name (S_Game_safe_from).nd rfl (by first | exact Or.inl rfl | exact Or.inr rfl))) (jgs_cons (jg_name (i := 7) (pg_name (S_Game_safe_from).nd rfl (by first | exact Or.inl rfl | exact Or.inr rfl))) jgs_nil))) (jb_frc (jb_cons (js_set (i := 8) (S_Game_safe_from).nd rfl (by first | exact Or.inl rfl | exact Or.inr rfl) (je_sub (hu64 hr) (je_lc (own := [("one", 9)]) rfl (S_Game_safe_from).nd (ji_val (je_var (pv 7))) (blkOk_by (N := N_Game_safe_from) (sc := defScope s_Game_safe_from) (by decide +kernel)) (fun s H C cl fp => (jgc_name (i := 9) (pg_name (S_Game_safe_from).nd rfl (by first | exact Or.inl rfl | exact Or.inr rfl)) (by decide))) (fun s H C cl fp => (jts_one (jt_cmp (jo_notIn (hu65 hr)) (je_var (pv 9)) (je_fld (a := 8) (at_ok D) (je_var (pv 0))) (by with_unfolding_all rfl)))) (fun s H C cl fp => (je_var (pv 9)))) (je_neg je_int) (by intro _ _; rfl))) (jb_frc (jb_cons (js_asg (je_sub (hu64 hr) (je_var (pv 7)) (je_var (pv 8)) (by intro _ _; rfl)) (jg_sub (W := W0) (hu64 hr) (je_var (pv 4)) (je_tup (ja_cons (je_var (pv 5)) (ja_cons (je_var (pv 6)) ja_nil))))) (jb_frc (jb_one (js_if (jt_cmp (jo_notIn (hu65 hr)) (je_var (pv 8)) (je_var (pv 2)) (by with_unfolding_all rfl)) (jb_cons (js_asg je_bl (jg_sub (W := W0) (hu64 hr) (je_var (pv 2)) (je_var (pv 8)))) (jb_frc (jb_one (js_expr (je_bm (t := 5) (.inr (.inl rfl)) PySem.F.plainAttrs_list PySem.F.slot_list_append PySem.F.type_list_append jm_append (je_var (pv 3)) (ja_cons (je_var (pv 8)) ja_nil)))))) jb_nil))))))))))))) (jb_frc (jb_one (js_ret (je_tup (ja_cons (je_callTy (jc_list rfl) rfl (g_list D) bt_list (ja_cons (je_var (pv 2)) ja_nil)) (ja_cons (je_var (pv 4)) ja_nil)))))))))
theorem mok_safe_from_3 (D : HD K mg) : MtOk P w K mg base (GG K) 2 "safe_from" mt_safe_from_3 := by
  intro c f h
  unfold mt_safe_from_3 at h
  split at h
  · cases h; exact ⟨cl_Game D, _, He.meth_ok (D.c.d.fact 109 rfl), (fa_Game_safe_from D).mono (by decide)⟩
  · cases h
theorem fa_forever_of (D : HD K mg) : FnA P w K mg base (GG K) 6 (He.ga K "forever_of") f_forever_of := by
  obtain ⟨fd, F⟩ := D.c.d.def_ 13 (d := d_forever_of) rfl
  refine FnA.frame (FnA.memo tok_forever_of ?_)
  refine FnA.frame ?_
  refine ⟨fd, P_forever_of, FunD.bindsN F fun _ _ _ _ _ _ us hl => match us, hl with | [_, _], _ => rfl, lBody_arity, fn_lt (N := N_forever_of) (k := 5) F S_forever_of fun cdv A outer s H E hr tk => ?_⟩
  exact (jb_cons (js_set (i := 2) (S_forever_of).nd rfl (by first | exact Or.inl rfl | exact Or.inr rfl) (je_make tk (hr.mono (by decide)) rfl (mk_Game D) (ja_cons (je_var (pv 0)) ja_nil))) (jb_frc (jb_cons (js_if (jt_cmp (jo_in (hu65 hr)) (je_var (pv 1)) (je_fld (a := 8) (at_ok D) (je_var (pv 2))) (by with_unfolding_all rfl)) (jb_one (js_ret (je_make tk (hr.mono (by decide)) rfl (mk_Stalls D) (ja_cons (je_fld (a := 8) (at_ok D) (je_var (pv 2))) ja_nil)))) jb_nil) (jb_frc (jb_cons (js_asg (je_meth (a := 20) tk (hr.mono (by decide)) (mok_safe_from_3 D) (je_var (pv 2)) (ja_cons (je_lst (ja_cons (je_var (pv 1)) ja_nil)) ja_nil)) (jg_tup rfl (jgs_cons (jg_name (i := 3) (pg_name (S_forever_of).nd rfl (by first | exact Or.inl rfl | exact Or.inr rfl))) (jgs_cons (jg_name (i := 4) (pg_name (S_forever_of).nd rfl (by first | exact Or.inl rfl | exact Or.inr rfl))) jgs_nil)))) (jb_frc (jb_one (js_ret (je_make tk (hr.mono (by decide)) rfl (mk_Rides D) (ja_cons (je_var (pv 3)) (ja_cons (je_var (pv 4)) ja_nil)))))))))))
theorem fn_forever_of (D : HD K mg) : FnG P w K mg base (GG K) 6 "forever_of" f_forever_of := ⟨_, g_forever_of D, (let ⟨_, F⟩ := D.c.d.def_ 13 (d := d_forever_of) rfl; F.kp), fa_forever_of D⟩
theorem fa_are_rows (D : HD K mg) : FnA P w K mg base (GG K) 2 (He.ga K "are_rows") f_are_rows := by
  obtain ⟨fd, F⟩ := D.c.d.def_ 14 (d := d_are_rows) rfl
  refine FnA.frame ?_
  refine ⟨fd, P_are_rows, FunD.bindsN F fun _ _ _ _ _ _ us hl => match us, hl with | [_, _, _], _ => rfl, lBody_arity, fn_lt (N := N_are_rows) (k := 1) F S_are_rows fun cdv A outer s H E hr tk => ?_⟩
  exact (jb_one (js_ret (je_and (je_isi (ClsV.ty "tuple") (isi_tuple D) rfl (g_isinstance D) (je_var (pv 0)) (pe_bltn rfl (g_tuple D) bt_tuple rfl)) (je_one (je_chain jo_le jo_le (je_var (pv 1)) (je_callB jc_len rfl (g_len D) bt_len (ja_cons (je_var (pv 0)) ja_nil)) (je_var (pv 2)))))))
theorem fn_are_rows (D : HD K mg) : FnG P w K mg base (GG K) 2 "are_rows" f_are_rows := ⟨_, g_are_rows D, (let ⟨_, F⟩ := D.c.d.def_ 14 (d := d_are_rows) rfl; F.kp), fa_are_rows D⟩
theorem fa_is_pair (D : HD K mg) : FnA P w K mg base (GG K) 3 (He.ga K "is_pair") f_is_pair := by
  obtain ⟨fd, F⟩ := D.c.d.def_ 15 (d := d_is_pair) rfl
  refine FnA.frame ?_
  refine ⟨fd, P_is_pair, FunD.bindsN F fun _ _ _ _ _ _ us hl => match us, hl with | [_, _], _ => rfl, lBody_arity, fn_lt (N := N_is_pair) (k := 2) F S_is_pair fun cdv A outer s H E hr tk => ?_⟩
  exact (jb_cons (js_if (jt_w (jw_or (jt_not (jt_val (je_isi (ClsV.ty "tuple") (isi_tuple D) rfl (g_isinstance D) (je_var (pv 0)) (pe_bltn rfl (g_tuple D) bt_tuple rfl)))) (jw_or (jt_cmp (jo_ne2 (hu64 hr)) (je_callB jc_len rfl (g_len D) bt_len (ja_cons (je_var (pv 0)) ja_nil)) je_int (nomark _)) (jw_or1 (jt_not (jt_val (je_callB (jc_all rfl) rfl (g_all D) bt_all (ja_cons (je_lc (own := [("one", 2)]) rfl (S_is_pair).nd (ji_val (je_var (pv 0))) (blkOk_by (N := N_is_pair) (sc := defScope s_is_pair) (by decide +kernel)) (fun s H C cl fp => (jgc_name (i := 2) (pg_name (S_is_pair).nd rfl (by first | exact Or.inl rfl | exact Or.inr rfl)) (by decide))) (fun s H C cl fp => jts_nil) (fun s H C cl fp => (je_call takes0 (hr.mono (by decide)) rfl (fn_is_integer D) (ja_cons (je_var (pv 2)) (ja_cons je_int (ja_cons (je_op jo_sub (je_var (pv 1)) je_int) ja_nil)))))) ja_nil)))))))) (jb_one (js_ret je_bl)) jb_nil) (jb_frc (jb_one (js_ret (je_cmp (jo_ne2 (hu64 hr)) (je_sub (hu64 hr) (je_var (pv 0)) je_int (by intro _ _; rfl)) (je_sub (hu64 hr) (je_var (pv 0)) je_int (by intro _ _; rfl)) (nomark _))))))
theorem fn_is_pair (D : HD K mg) : FnG P w K mg base (GG K) 3 "is_pair" f_is_pair := ⟨_, g_is_pair D, (let ⟨_, F⟩ := D.c.d.def_ 15 (d := d_is_pair) rfl; F.kp), fa_is_pair D⟩
theorem fa_is_rising (D : HD K mg) : FnA P w K mg base (GG K) 2 (He.ga K "is_rising") f_is_rising := by
  obtain ⟨fd, F⟩ := D.c.d.def_ 16 (d := d_is_rising) rfl
  refine FnA.frame ?_
  refine ⟨fd, P_is_rising, FunD.bindsN F fun _ _ _ _ _ _ us hl => match us, hl with | [_], _ => rfl, lBody_arity, fn_lt (N := N_is_rising) (k := 1) F S_is_rising fun cdv A outer s H E hr tk => ?_⟩
  exact (jb_one (js_ret (je_callB (jc_all rfl) rfl (g_all D) bt_all (ja_cons (je_lc (own := [("one", 1), ("other", 2)]) rfl (S_is_rising).nd (ji_zip rfl (g_zip D) (ja_cons (je_var (pv 0)) (ja_cons (je_slice (je_var (pv 0)) (jo_some je_int) jo_none) ja_nil))) (blkOk_by (N := N_is_rising) (sc := defScope s_is_rising) (by decide +kernel)) (fun s H C cl fp => (jgc_tup rfl (jgcs_cons (jgc_name (i := 1) (pg_name (S_is_rising).nd rfl (by first | exact Or.inl rfl | exact Or.inr rfl)) (by decide)) (jgcs_cons (jgc_name (i := 2) (pg_name (S_is_rising).nd rfl (by first | exact Or.inl rfl | exact Or.inr rfl)) (by decide)) jgcs_nil)))) (fun s H C cl fp => jts_nil) (fun s H C cl fp => (je_cmp (jo_ltD (hu70 hr)) (je_var (pv 1)) (je_var (pv 2)) (nomark _)))) ja_nil))))
theorem fn_is_rising (D : HD K mg) : FnG P w K mg base (GG K) 2 "is_rising" f_is_rising := ⟨_, g_is_rising D, (let ⟨_, F⟩ := D.c.d.def_ 16 (d := d_is_rising) rfl; F.kp), fa_is_rising D⟩
theorem fa_is_road (D : HD K mg) : FnA P w K mg base (GG K) 3 (He.ga K "is_road") f_is_road := by
  obtain ⟨fd, F⟩ := D.c.d.def_ 17 (d := d_is_road) rfl
  refine FnA.frame ?_
  refine ⟨fd, P_is_road, FunD.bindsN F fun _ _ _ _ _ _ us hl => match us, hl with | [_, _], _ => rfl, lBody_arity, fn_lt (N := N_is_road) (k := 2) F S_is_road fun cdv A outer s H E hr tk => ?_⟩
  exact (jb_cons (js_if (jt_w (jw_or (jt_not (jt_val (je_isi (ClsV.ty "tuple") (isi_tuple D) rfl (g_isinstance D) (je_var (pv 0)) (pe_bltn rfl (g_tuple D) bt_tuple rfl)))) (jw_or (jt_cmp (jo_ne2 (hu64 hr)) (je_callB jc_len rfl (g_len D) bt_len (ja_cons (je_var (pv 0)) ja_nil)) je_int (nomark _)) (jw_or1 (jt_not (jt_val (je_callB (jc_all rfl) rfl (g_all D) bt_all (ja_cons (je_lc (own := [("one", 2)]) rfl (S_is_road).nd (ji_val (je_slice (je_var (pv 0)) jo_none (jo_some je_int))) (blkOk_by (N := N_is_road) (sc := defScope s_is_road) (by decide +kernel)) (fun s H C cl fp => (jgc_name (i := 2) (pg_name (S_is_road).nd rfl (by first | exact Or.inl rfl | exact Or.inr rfl)) (by decide))) (fun s H C cl fp => jts_nil) (fun s H C cl fp => (je_call takes0 (hr.mono (by decide)) rfl (fn_is_integer D) (ja_cons (je_var (pv 2)) (ja_cons je_int (ja_cons (je_var (pv 1)) ja_nil)))))) ja_nil)))))))) (jb_one (js_ret je_bl)) jb_nil) (jb_frc (jb_cons (js_if (jt_not (jt_val (je_callB (jc_all rfl) rfl (g_all D) bt_all (ja_cons (je_lc (own := [("one", 2)]) rfl (S_is_road).nd (ji_val (je_slice (je_var (pv 0)) (jo_some je_int) jo_none)) (blkOk_by (N := N_is_road) (sc := defScope s_is_road) (by decide +kernel)) (fun s H C cl fp => (jgc_name (i := 2) (pg_name (S_is_road).nd rfl (by first | exact Or.inl rfl | exact Or.inr rfl)) (by decide))) (fun s H C cl fp => jts_nil) (fun s H C cl fp => (je_call takes0 (hr.mono (by decide)) rfl (fn_is_integer D) (ja_cons (je_var (pv 2)) (ja_cons je_int (ja_cons (je_c (pe_k_MAX_STEP D rfl rfl rfl) (fun μ H => vr_MAX_STEP D μ H)) ja_nil)))))) ja_nil)))) (jb_one (js_ret je_bl)) jb_nil) (jb_frc (jb_one (js_ret (je_chain (jo_ltD (hu70 hr)) (jo_ltD (hu70 hr)) (je_sub (hu64 hr) (je_var (pv 0)) je_int (by intro _ _; rfl)) (je_sub (hu64 hr) (je_var (pv 0)) je_int (by intro _ _; rfl)) (je_var (pv 1)))))))))
theorem fn_is_road (D : HD K mg) : FnG P w K mg base (GG K) 3 "is_road" f_is_road := ⟨_, g_is_road D, (let ⟨_, F⟩ := D.c.d.def_ 17 (d := d_is_road) rfl; F.kp), fa_is_road D⟩
theorem fa_Town___init__ (D : HD K mg) : FnA P w K mg base (GG K) 4 (He.ma K (He.ga K "Town") "__init__") f_Town___init__ := by
  obtain ⟨fd, F⟩ := D.c.d.def_ 18 (d := d_Town___init__) rfl
  refine FnA.frame ?_
  refine ⟨fd, P_Town___init__, FunD.bindsN F fun _ _ _ _ _ _ us hl => match us, hl with | [_, _, _, _, _, _, _], _ => rfl, lBody_arity, fn_lt (N := N_Town___init__) (k := 3) F S_Town___init__ fun cdv A outer s H E hr tk => ?_⟩
  exact (jb_cons (js_if (jt_not (jt_val (je_call tk (hr.mono (by decide)) rfl (fn_is_integer D) (ja_cons (je_var (pv 1)) (ja_cons je_int (ja_cons (je_c (pe_k_MAX_PLACES D rfl rfl rfl) (fun μ H => vr_MAX_PLACES D μ H)) ja_nil)))))) (jb_one js_bad) jb_nil) (jb_frc (jb_cons (js_if (jt_w (jw_or (jt_not (jt_val (je_call tk (hr.mono (by decide)) rfl (fn_are_rows D) (ja_cons (je_var (pv 2)) (ja_cons je_int (ja_cons (je_c (pe_k_MAX_ROADS D rfl rfl rfl) (fun μ H => vr_MAX_ROADS D μ H)) ja_nil)))))) (jw_or1 (jt_not (jt_val (je_callB (jc_all rfl) rfl (g_all D) bt_all (ja_cons (je_lc (own := [("road", 7)]) rfl (S_Town___init__).nd (ji_val (je_var (pv 2))) (blkOk_by (N := N_Town___init__) (sc := defScope s_Town___init__) (by decide +kernel)) (fun s H C cl fp => (jgc_name (i := 7) (pg_name (S_Town___init__).nd rfl (by first | exact Or.inl rfl | exact Or.inr rfl)) (by decide))) (fun s H C cl fp => jts_nil) (fun s H C cl fp => (je_call takes0 (hr.mono (by decide)) rfl (fn_is_road D) (ja_cons (je_var (pv 7)) (ja_cons (je_var (pv 1)) ja_nil))))) ja_nil))))))) (jb_one js_bad) jb_nil) (jb_frc (jb_cons (js_if (jt_not (jt_val (je_call tk (hr.mono (by decide)) rfl (fn_is_rising D) (ja_cons (je_var (pv 2)) ja_nil)))) (jb_one js_bad) jb_nil) (jb_frc (jb_cons (js_if (jt_w (jw_or (jt_not (jt_val (je_call tk (hr.mono (by decide)) rfl (fn_are_rows D) (ja_cons (je_var (pv 3)) (ja_cons je_int (ja_cons (je_var (pv 1)) ja_nil)))))) (jw_or1 (jt_not (jt_val (je_callB (jc_all rfl) rfl (g_all D) bt_all (ja_cons (je_lc (own := [("one", 8)]) rfl (S_Town___init__).nd (ji_val (je_var (pv 3))) (blkOk_by (N := N_Town___init__) (sc := defScope s_Town___init__) (by decide +kernel)) (fun s H C cl fp => (jgc_name (i := 8) (pg_name (S_Town___init__).nd rfl (by first | exact Or.inl rfl | exact Or.inr rfl)) (by decide))) (fun s H C cl fp => jts_nil) (fun s H C cl fp => (je_call takes0 (hr.mono (by decide)) rfl (fn_is_integer D) (ja_cons (je_var (pv 8)) (ja_cons je_int (ja_cons (je_op jo_sub (je_var (pv 1)) je_int) ja_nil)))))) ja_nil))))))) (jb_one js_bad) jb_nil) (jb_frc (jb_cons (js_if (jt_not (jt_val (je_call tk (hr.mono (by decide)) rfl (fn_is_rising D) (ja_cons (je_var (pv 3)) ja_nil)))) (jb_one js_bad) jb_nil) (jb_frc (jb_cons (js_if (jt_w (jw_or (jt_not (jt_val (je_call tk (hr.mono (by decide)) rfl (fn_are_rows D) (ja_cons (je_var (pv 4)) (ja_cons je_int (ja_cons (je_c (pe_k_MAX_ORDERS D rfl rfl rfl) (fun μ H => vr_MAX_ORDERS D μ H)) ja_nil)))))) (jw_or1 (jt_not (jt_val (je_callB (jc_all rfl) rfl (g_all D) bt_all (ja_cons (je_lc (own := [("order", 9)]) rfl (S_Town___init__).nd (ji_val (je_var (pv 4))) (blkOk_by (N := N_Town___init__) (sc := defScope s_Town___init__) (by decide +kernel)) (fun s H C cl fp => (jgc_name (i := 9) (pg_name (S_Town___init__).nd rfl (by first | exact Or.inl rfl | exact Or.inr rfl)) (by decide))) (fun s H C cl fp => jts_nil) (fun s H C cl fp => (je_call takes0 (hr.mono (by decide)) rfl (fn_is_pair D) (ja_cons (je_var (pv 9)) (ja_cons (je_var (pv 1)) ja_nil))))) ja_nil))))))) (jb_one js_bad) jb_nil) (jb_frc (jb_cons (js_if (jt_not (jt_val (je_call tk (hr.mono (by decide)) rfl (fn_is_rising D) (ja_cons (je_var (pv 4)) ja_nil)))) (jb_one js_bad) jb_nil) (jb_frc (jb_cons (js_if (jt_not (jt_val (je_call tk (hr.mono (by decide)) rfl (fn_is_integer D) (ja_cons (je_var (pv 5)) (ja_cons je_int (ja_cons (je_c (pe_k_MAX_MINUTES D rfl rfl rfl) (fun μ H => vr_MAX_MINUTES D μ H)) ja_nil)))))) (jb_one js_bad) jb_nil) (jb_frc (jb_cons (js_if (jt_not (jt_val (je_call tk (hr.mono (by decide)) rfl (fn_is_integer D) (ja_cons (je_var (pv 6)) (ja_cons je_int (ja_cons (je_c (pe_k_MAX_BATTERY D rfl rfl rfl) (fun μ H => vr_MAX_BATTERY D μ H)) ja_nil)))))) (jb_one js_bad) jb_nil) (jb_frc (jb_cons (js_fld (a := 0) (at_ok D) (je_var (pv 0)) (je_var (pv 1))) (jb_frc (jb_cons (js_fld (a := 1) (at_ok D) (je_var (pv 0)) (je_var (pv 2))) (jb_frc (jb_cons (js_fld (a := 2) (at_ok D) (je_var (pv 0)) (je_var (pv 3))) (jb_frc (jb_cons (js_fld (a := 3) (at_ok D) (je_var (pv 0)) (je_var (pv 4))) (jb_frc (jb_cons (js_fld (a := 4) (at_ok D) (je_var (pv 0)) (je_var (pv 5))) (jb_frc (jb_one (js_fld (a := 5) (at_ok D) (je_var (pv 0)) (je_var (pv 6))))))))))))))))))))))))))))))))
theorem mk_Town (D : HD K mg) : MkOk P w K mg base (GG K) 4 "Town" 0 f_Town___init__ := ⟨g_Town D, _, He.mkr_ok (D.c.d.fact 120 rfl), fa_Town___init__ D⟩
theorem fa_with_battery (D : HD K mg) : FnA P w K mg base (GG K) 6 (He.ga K "with_battery") f_with_battery := by
  obtain ⟨fd, F⟩ := D.c.d.def_ 19 (d := d_with_battery) rfl
  refine FnA.frame ?_
  refine ⟨fd, P_with_battery, FunD.bindsN F fun _ _ _ _ _ _ us hl => match us, hl with | [_, _], _ => rfl, lBody_arity, fn_lt (N := N_with_battery) (k := 5) F S_with_battery fun cdv A outer s H E hr tk => ?_⟩
  exact (jb_one (js_ret (je_make tk (hr.mono (by decide)) rfl (mk_Town D) (ja_cons (je_fld (a := 0) (at_ok D) (je_var (pv 0))) (ja_cons (je_fld (a := 1) (at_ok D) (je_var (pv 0))) (ja_cons (je_fld (a := 2) (at_ok D) (je_var (pv 0))) (ja_cons (je_fld (a := 3) (at_ok D) (je_var (pv 0))) (ja_cons (je_fld (a := 4) (at_ok D) (je_var (pv 0))) (ja_cons (je_var (pv 1)) ja_nil)))))))))
theorem fn_with_battery (D : HD K mg) : FnG P w K mg base (GG K) 6 "with_battery" f_with_battery := ⟨_, g_with_battery D, (let ⟨_, F⟩ := D.c.d.def_ 19 (d := d_with_battery) rfl; F.kp), fa_with_battery D⟩
theorem fa_Battery___init__ (D : HD K mg) : FnA P w K mg base (GG K) 2 (He.ma K (He.ga K "Battery") "__init__") f_Battery___init__ := by
  obtain ⟨fd, F⟩ := D.c.d.def_ 20 (d := d_Battery___init__) rfl
  refine FnA.frame ?_
  refine ⟨fd, P_Battery___init__, FunD.bindsN F fun _ _ _ _ _ _ us hl => match us, hl with | [_, _, _, _], _ => rfl, lBody_arity, fn_lt (N := N_Battery___init__) (k := 1) F S_Battery___init__ fun cdv A outer s H E hr tk => ?_⟩
  exact (jb_cons (js_fld (a := 10) (at_ok D) (je_var (pv 0)) (je_var (pv 1))) (jb_frc (jb_cons (js_fld (a := 11) (at_ok D) (je_var (pv 0)) (je_var (pv 2))) (jb_frc (jb_one (js_fld (a := 12) (at_ok D) (je_var (pv 0)) (je_var (pv 3))))))))
theorem mk_Battery (D : HD K mg) : MkOk P w K mg base (GG K) 2 "Battery" 4 f_Battery___init__ := ⟨g_Battery D, _, He.mkr_ok (D.c.d.fact 114 rfl), fa_Battery___init__ D⟩
theorem fa_battery (D : HD K mg) : FnA P w K mg base (GG K) 7 (He.ga K "battery") f_battery := by
  obtain ⟨fd, F⟩ := D.c.d.def_ 21 (d := d_battery) rfl
  refine FnA.frame ?_
  refine ⟨fd, P_battery, FunD.bindsN F fun _ _ _ _ _ _ us hl => match us, hl with | [_, _], _ => rfl, lBody_arity, fn_lt (N := N_battery) (k := 6) F S_battery fun cdv A outer s H E hr tk => ?_⟩
  exact (jb_cons (js_expr (je_call tk (hr.mono (by decide)) rfl (fn_check_place D) (ja_cons (je_var (pv 0)) (ja_cons (je_var (pv 1)) ja_nil)))) (jb_frc (jb_cons (js_set (i := 2) (S_battery).nd rfl (by first | exact Or.inl rfl | exact Or.inr rfl) je_non) (jb_frc (jb_cons (js_for (passes_of rfl) rfl (ji_range2 rfl (g_range D) (ja_cons je_int (ja_cons (je_op jo_add (je_c (pe_k_MAX_BATTERY D rfl rfl rfl) (fun μ H => vr_MAX_BATTERY D μ H)) je_int) ja_nil))) (jg_name (i := 3) (pg_name (S_battery).nd rfl (by first | exact Or.inl rfl | exact Or.inr rfl))) (jb_frc (jb_cons (js_set (i := 4) (S_battery).nd rfl (by first | exact Or.inl rfl | exact Or.inr rfl) (je_call tk (hr.mono (by decide)) rfl (fn_forever_of D) (ja_cons (je_call tk (hr.mono (by decide)) rfl (fn_with_battery D) (ja_cons (je_var (pv 0)) (ja_cons (je_var (pv 3)) ja_nil))) (ja_cons (je_tup (ja_cons (je_var (pv 1)) (ja_cons (je_var (pv 3)) ja_nil))) ja_nil)))) (jb_frc (jb_cons (js_if (jt_val (je_isi (ClsV.own _) (isi_Rides D) rfl (g_isinstance D) (je_var (pv 4)) (pe_glob rfl (g_Rides D) rfl))) (jb_one (js_ret (je_make tk (hr.mono (by decide)) rfl (mk_Battery D) (ja_cons (je_var (pv 3)) (ja_cons (je_var (pv 4)) (ja_cons (je_var (pv 2)) ja_nil)))))) jb_nil) (jb_frc (jb_one (js_set (i := 2) (S_battery).nd rfl (by first | exact Or.inl rfl | exact Or.inr rfl) (je_var (pv 4)))))))))) (jb_frc (jb_one (js_ret (je_make tk (hr.mono (by decide)) rfl (mk_Battery D) (ja_cons je_non (ja_cons je_non (ja_cons (je_var (pv 2)) ja_nil))))))))))))
theorem fn_battery (D : HD K mg) : FnG P w K mg base (GG K) 7 "battery" f_battery := ⟨_, g_battery D, (let ⟨_, F⟩ := D.c.d.def_ 21 (d := d_battery) rfl; F.kp), fa_battery D⟩
theorem fa_least_battery (D : HD K mg) : FnA P w K mg base (GG K) 8 (He.ga K "least_battery") f_least_battery := by
  obtain ⟨fd, F⟩ := D.c.d.def_ 22 (d := d_least_battery) rfl
  refine FnA.frame ?_
  refine ⟨fd, P_least_battery, FunD.bindsN F fun _ _ _ _ _ _ us hl => match us, hl with | [_, _], _ => rfl, lBody_arity, fn_lt (N := N_least_battery) (k := 7) F S_least_battery fun cdv A outer s H E hr tk => ?_⟩
  exact (jb_one (js_ret (je_fld (a := 10) (at_ok D) (je_call tk (hr.mono (by decide)) rfl (fn_battery D) (ja_cons (je_var (pv 0)) (ja_cons (je_var (pv 1)) ja_nil))))))
theorem fn_least_battery (D : HD K mg) : FnG P w K mg base (GG K) 8 "least_battery" f_least_battery := ⟨_, g_least_battery D, (let ⟨_, F⟩ := D.c.d.def_ 22 (d := d_least_battery) rfl; F.kp), fa_least_battery D⟩
theorem fa_does_carry (D : HD K mg) : FnA P w K mg base (GG K) 2 (He.ga K "does_carry") f_does_carry := by
  obtain ⟨fd, F⟩ := D.c.d.def_ 23 (d := d_does_carry) rfl
  refine FnA.frame ?_
  refine ⟨fd, P_does_carry, FunD.bindsN F fun _ _ _ _ _ _ us hl => match us, hl with | [_, _], _ => rfl, lBody_arity, fn_lt (N := N_does_carry) (k := 1) F S_does_carry fun cdv A outer s H E hr tk => ?_⟩
  exact (jb_cons (js_lc (own := [("place", 3), ("charge", 4)]) (i := 2) rfl (S_does_carry).nd rfl rfl (sw_true rfl rfl rfl rfl) (ji_val (je_var (pv 1))) (blkOk_by (N := N_does_carry) (sc := defScope s_does_carry) (by decide +kernel)) (fun s H C cl fp => (jgc_tup rfl (jgcs_cons (jgc_name (i := 3) (pg_name (S_does_carry).nd rfl (by first | exact Or.inl rfl | exact Or.inr rfl)) (by decide)) (jgcs_cons (jgc_name (i := 4) (pg_name (S_does_carry).nd rfl (by first | exact Or.inl rfl | exact Or.inr rfl)) (by decide)) jgcs_nil)))) (fun s H C cl fp => jts_nil) (fun s H C cl fp => (je_var (pv 3)))) (jb_frc (jb_one (js_ret (je_and (je_cmp (jo_in (hu65 hr)) (je_sub (hu64 hr) (je_var (pv 0)) je_int (by intro _ _; rfl)) (je_var (pv 2)) (by with_unfolding_all rfl)) (je_one (je_cmp (jo_in (hu65 hr)) (je_sub (hu64 hr) (je_var (pv 0)) je_int (by intro _ _; rfl)) (je_slice (je_var (pv 2)) (jo_some (je_op jo_add (je_bm (t := 5) (.inr (.inl rfl)) PySem.F.plainAttrs_list PySem.F.slot_list_index PySem.F.type_list_index jm_index (je_var (pv 2)) (ja_cons (je_sub (hu64 hr) (je_var (pv 0)) je_int (by intro _ _; rfl)) ja_nil)) je_int)) jo_none) (by with_unfolding_all rfl))))))))
theorem fn_does_carry (D : HD K mg) : FnG P w K mg base (GG K) 2 "does_carry" f_does_carry := ⟨_, g_does_carry D, (let ⟨_, F⟩ := D.c.d.def_ 23 (d := d_does_carry) rfl; F.kp), fa_does_carry D⟩
theorem fa_is_step (D : HD K mg) : FnA P w K mg base (GG K) 3 (He.ga K "is_step") f_is_step := by
  obtain ⟨fd, F⟩ := D.c.d.def_ 24 (d := d_is_step) rfl
  refine FnA.frame ?_
  refine ⟨fd, P_is_step, FunD.bindsN F fun _ _ _ _ _ _ us hl => match us, hl with | [_, _], _ => rfl, lBody_arity, fn_lt (N := N_is_step) (k := 2) F S_is_step fun cdv A outer s H E hr tk => ?_⟩
  exact (jb_cons (js_if (jt_w (jw_or (jt_not (jt_val (je_isi (ClsV.ty "tuple") (isi_tuple D) rfl (g_isinstance D) (je_var (pv 1)) (pe_bltn rfl (g_tuple D) bt_tuple rfl)))) (jw_or (jt_cmp (jo_notIn (hu65 hr)) (je_callB jc_len rfl (g_len D) bt_len (ja_cons (je_var (pv 1)) ja_nil)) (je_tup (ja_cons je_int (ja_cons je_int ja_nil))) (by with_unfolding_all rfl)) (jw_or1 (jt_not (jt_val (je_isi (ClsV.ty "str") (isi_str D) rfl (g_isinstance D) (je_sub (hu64 hr) (je_var (pv 1)) je_int (by intro _ _; rfl)) (pe_bltn rfl (g_str D) bt_str rfl)))))))) (jb_one (js_ret je_bl)) jb_nil) (jb_frc (jb_one (js_ret (je_if (jt_cmp (jo_eq2 (hu64 hr)) (je_callB jc_len rfl (g_len D) bt_len (ja_cons (je_var (pv 1)) ja_nil)) je_int (nomark _)) (je_cmp (jo_eq2 (hu64 hr)) (je_var (pv 1)) (je_c (pe_k_CHARGE D rfl rfl rfl) (fun μ H => vr_CHARGE D μ H)) (nomark _)) (je_and (je_cmp (jo_eq2 (hu64 hr)) (je_sub (hu64 hr) (je_var (pv 1)) je_int (by intro _ _; rfl)) (je_c (pe_k_RIDE D rfl rfl rfl) (fun μ H => vr_RIDE D μ H)) (nomark _)) (je_one (je_call tk (hr.mono (by decide)) rfl (fn_is_integer D) (ja_cons (je_sub (hu64 hr) (je_var (pv 1)) je_int (by intro _ _; rfl)) (ja_cons je_int (ja_cons (je_op jo_sub (je_callB jc_len rfl (g_len D) bt_len (ja_cons (je_fld (a := 1) (at_ok D) (je_var (pv 0))) ja_nil)) je_int) ja_nil)))))))))))
theorem fn_is_step (D : HD K mg) : FnG P w K mg base (GG K) 3 "is_step" f_is_step := ⟨_, g_is_step D, (let ⟨_, F⟩ := D.c.d.def_ 24 (d := d_is_step) rfl; F.kp), fa_is_step D⟩
theorem fa_step_at (D : HD K mg) : FnA P w K mg base (GG K) 4 (He.ga K "step_at") f_step_at := by
  obtain ⟨fd, F⟩ := D.c.d.def_ 25 (d := d_step_at) rfl
  refine FnA.frame ?_
  refine ⟨fd, P_step_at, FunD.bindsN F fun _ _ _ _ _ _ us hl => match us, hl with | [_, _, _], _ => rfl, lBody_arity, fn_lt (N := N_step_at) (k := 3) F S_step_at fun cdv A outer s H E hr tk => ?_⟩
  exact (jb_cons (js_if (jt_not (jt_val (je_call tk (hr.mono (by decide)) rfl (fn_is_step D) (ja_cons (je_var (pv 0)) (ja_cons (je_var (pv 2)) ja_nil))))) (jb_one (js_ret je_non)) jb_nil) (jb_frc (jb_cons (js_lc (own := [("step", 4), ("later", 5), ("minutes", 6)]) (i := 3) rfl (S_step_at).nd rfl rfl (sw_true rfl rfl rfl rfl) (ji_val (je_call tk (hr.mono (by decide)) rfl (fn_steps_at D) (ja_cons (je_var (pv 0)) (ja_cons (je_var (pv 1)) ja_nil)))) (blkOk_by (N := N_step_at) (sc := defScope s_step_at) (by decide +kernel)) (fun s H C cl fp => (jgc_tup rfl (jgcs_cons (jgc_name (i := 4) (pg_name (S_step_at).nd rfl (by first | exact Or.inl rfl | exact Or.inr rfl)) (by decide)) (jgcs_cons (jgc_name (i := 5) (pg_name (S_step_at).nd rfl (by first | exact Or.inl rfl | exact Or.inr rfl)) (by decide)) (jgcs_cons (jgc_name (i := 6) (pg_name (S_step_at).nd rfl (by first | exact Or.inl rfl | exact Or.inr rfl)) (by decide)) jgcs_nil))))) (fun s H C cl fp => (jts_one (jt_cmp (jo_eq2 (hu64 hr)) (je_var (pv 4)) (je_var (pv 2)) (nomark _)))) (fun s H C cl fp => (je_tup (ja_cons (je_var (pv 5)) (ja_cons (je_var (pv 6)) ja_nil))))) (jb_frc (jb_one (js_ret (je_if (jt_cmp (jo_ne2 (hu64 hr)) (je_var (pv 3)) (je_lst ja_nil) (nomark _)) (je_sub (hu64 hr) (je_var (pv 3)) je_int (by intro _ _; rfl)) je_non)))))))
theorem fn_step_at (D : HD K mg) : FnG P w K mg base (GG K) 4 "step_at" f_step_at := ⟨_, g_step_at D, (let ⟨_, F⟩ := D.c.d.def_ 25 (d := d_step_at) rfl; F.kp), fa_step_at D⟩
theorem fa_walked (D : HD K mg) : FnA P w K mg base (GG K) 5 (He.ga K "walked") f_walked := by
  obtain ⟨fd, F⟩ := D.c.d.def_ 26 (d := d_walked) rfl
  refine FnA.frame ?_
  refine ⟨fd, P_walked, FunD.bindsN F fun _ _ _ _ _ _ us hl => match us, hl with | [_, _, _], _ => rfl, lBody_arity, fn_lt (N := N_walked) (k := 4) F S_walked fun cdv A outer s H E hr tk => ?_⟩
  exact (jb_cons (js_par (ps_par (i := 3) (j := 4) rfl (S_walked).nd rfl rfl (by decide) rfl rfl (ja_cons (je_lst (ja_cons (je_var (pv 1)) ja_nil)) (ja_cons je_int ja_nil)) (by rfl))) (jb_frc (jb_cons (js_for (passes_of rfl) rfl (ji_enum rfl (g_enumerate D) (ja_cons (je_var (pv 2)) ja_nil)) (jg_tup rfl (jgs_cons (jg_name (i := 5) (pg_name (S_walked).nd rfl (by first | exact Or.inl rfl | exact Or.inr rfl))) (jgs_cons (jg_name (i := 6) (pg_name (S_walked).nd rfl (by first | exact Or.inl rfl | exact Or.inr rfl))) jgs_nil))) (jb_frc (jb_cons (js_set (i := 7) (S_walked).nd rfl (by first | exact Or.inl rfl | exact Or.inr rfl) (je_call tk (hr.mono (by decide)) rfl (fn_step_at D) (ja_cons (je_var (pv 0)) (ja_cons (je_sub (hu64 hr) (je_var (pv 3)) (je_neg je_int) (by intro _ _; rfl)) (ja_cons (je_var (pv 6)) ja_nil))))) (jb_frc (jb_cons (js_if (jt_w (jw_or (jt_cmp jo_is2 (je_var (pv 7)) je_non (nomark _)) (jw_or1 (jt_cmp jo_gt (je_op jo_add (je_var (pv 4)) (je_sub (hu64 hr) (je_var (pv 7)) je_int (by intro _ _; rfl))) (je_fld (a := 4) (at_ok D) (je_var (pv 0))) (nomark _))))) (jb_one (js_ret (je_tup (ja_cons (je_var (pv 3)) (ja_cons (je_var (pv 4)) (ja_cons (je_var (pv 5)) ja_nil)))))) jb_nil) (jb_frc (jb_cons (js_expr (je_bm (t := 5) (.inr (.inl rfl)) PySem.F.plainAttrs_list PySem.F.slot_list_append PySem.F.type_list_append jm_append (je_var (pv 3)) (ja_cons (je_sub (hu64 hr) (je_var (pv 7)) je_int (by intro _ _; rfl)) ja_nil))) (jb_frc (jb_one (js_aug (i := 4) (S_walked).nd rfl (by first | exact Or.inl rfl | exact Or.inr rfl) (je_sub (hu64 hr) (je_var (pv 7)) je_int (by intro _ _; rfl)))))))))))) (jb_frc (jb_one (js_ret (je_tup (ja_cons (je_var (pv 3)) (ja_cons (je_var (pv 4)) (ja_cons je_non ja_nil))))))))))
theorem fn_walked (D : HD K mg) : FnG P w K mg base (GG K) 5 "walked" f_walked := ⟨_, g_walked D, (let ⟨_, F⟩ := D.c.d.def_ 26 (d := d_walked) rfl; F.kp), fa_walked D⟩
theorem fa_end_of (D : HD K mg) : FnA P w K mg base (GG K) 6 (He.ga K "end_of") f_end_of := by
  obtain ⟨fd, F⟩ := D.c.d.def_ 27 (d := d_end_of) rfl
  refine FnA.frame ?_
  refine ⟨fd, P_end_of, FunD.bindsN F fun _ _ _ _ _ _ us hl => match us, hl with | [_, _, _, _], _ => rfl, lBody_arity, fn_lt (N := N_end_of) (k := 5) F S_end_of fun cdv A outer s H E hr tk => ?_⟩
  exact (jb_cons (js_asg (je_call tk (hr.mono (by decide)) rfl (fn_walked D) (ja_cons (je_var (pv 0)) (ja_cons (je_var (pv 1)) (ja_cons (je_var (pv 3)) ja_nil)))) (jg_tup rfl (jgs_cons (jg_name (i := 4) (pg_name (S_end_of).nd rfl (by first | exact Or.inl rfl | exact Or.inr rfl))) (jgs_cons (jg_name (i := 5) (pg_name (S_end_of).nd rfl (by first | exact Or.inl rfl | exact Or.inr rfl))) (jgs_cons (jg_name (i := 6) (pg_name (S_end_of).nd rfl (by first | exact Or.inl rfl | exact Or.inr rfl))) jgs_nil))))) (jb_frc (jb_one (js_ret (je_if (jt_w (jw_and (jt_cmp jo_is2 (je_var (pv 6)) je_non (nomark _)) (jw_and1 (jt_val (je_call tk (hr.mono (by decide)) rfl (fn_does_carry D) (ja_cons (je_var (pv 2)) (ja_cons (je_var (pv 4)) ja_nil))))))) (je_sub (hu64 hr) (je_var (pv 4)) (je_neg je_int) (by intro _ _; rfl)) je_non)))))
theorem fn_end_of (D : HD K mg) : FnG P w K mg base (GG K) 6 "end_of" f_end_of := ⟨_, g_end_of D, (let ⟨_, F⟩ := D.c.d.def_ 27 (d := d_end_of) rfl; F.kp), fa_end_of D⟩
theorem fa_are_closed (D : HD K mg) : FnA P w K mg base (GG K) 7 (He.ga K "are_closed") f_are_closed := by
  obtain ⟨fd, F⟩ := D.c.d.def_ 28 (d := d_are_closed) rfl
  refine FnA.frame ?_
  refine ⟨fd, P_are_closed, FunD.bindsN F fun _ _ _ _ _ _ us hl => match us, hl with | [_, _, _], _ => rfl, lBody_arity, fn_lt (N := N_are_closed) (k := 6) F S_are_closed fun cdv A outer s H E hr tk => ?_⟩
  exact (jb_cons (js_set (i := 3) (S_are_closed).nd rfl (by first | exact Or.inl rfl | exact Or.inr rfl) (je_dc (own := [("state", 5)]) (hu64 hr) rfl (S_are_closed).nd (ji_val (je_var (pv 1))) (blkOk_by (N := N_are_closed) (sc := defScope s_are_closed) (by decide +kernel)) (fun s H C cl fp => (jgc_name (i := 5) (pg_name (S_are_closed).nd rfl (by first | exact Or.inl rfl | exact Or.inr rfl)) (by decide))) (fun s H C cl fp => jts_nil) (fun s H C cl fp => (je_var (pv 5))) (fun s H C cl fp => je_bl))) (jb_frc (jb_cons (js_lc2 (own := [("state", 5), ("order", 6)]) (vs1 := [6]) (i := 4) rfl (S_are_closed).nd rfl rfl (sw_true rfl rfl rfl rfl) (ji_val (je_var (pv 3))) (blkOk_by (N := N_are_closed) (sc := defScope s_are_closed) (by decide +kernel)) (by decide) (fun s H C cl fp => (jgc_name (i := 5) (pg_name (S_are_closed).nd rfl (by first | exact Or.inl rfl | exact Or.inr rfl)) (by decide))) (fun s H C cl fp => jts_nil) (fun s H C cl fp => (ji_val (je_fld (a := 3) (at_ok D) (je_var (pv 0))))) (fun s H C cl fp => (jgc_name (i := 6) (pg_name (S_are_closed).nd rfl (by first | exact Or.inl rfl | exact Or.inr rfl)) (by decide))) (fun s H C cl fp => jts_nil) (fun s H C cl fp => (je_tup (ja_cons (je_var (pv 5)) (ja_cons (je_var (pv 6)) ja_nil))))) (jb_frc (jb_cons (js_if (jt_w (jw_or (jt_cmp (jo_ne2 (hu64 hr)) (je_callB jc_len rfl (g_len D) bt_len (ja_cons (je_var (pv 4)) ja_nil)) (je_callB jc_len rfl (g_len D) bt_len (ja_cons (je_var (pv 2)) ja_nil)) (nomark _)) (jw_or1 (jt_not (jt_val (je_callB (jc_all rfl) rfl (g_all D) bt_all (ja_cons (je_lc (own := [("pair", 7)]) rfl (S_are_closed).nd (ji_val (je_var (pv 4))) (blkOk_by (N := N_are_closed) (sc := defScope s_are_closed) (by decide +kernel)) (fun s H C cl fp => (jgc_name (i := 7) (pg_name (S_are_closed).nd rfl (by first | exact Or.inl rfl | exact Or.inr rfl)) (by decide))) (fun s H C cl fp => jts_nil) (fun s H C cl fp => (je_cmp (jo_in (hu65 hr)) (je_var (pv 7)) (je_var (pv 2)) (by with_unfolding_all rfl)))) ja_nil))))))) (jb_one (js_ret je_bl)) jb_nil) (jb_frc (jb_one (js_ret (je_callB (jc_all rfl) rfl (g_all D) bt_all (ja_cons (je_lc (own := [("pair", 7)]) rfl (S_are_closed).nd (ji_val (je_var (pv 4))) (blkOk_by (N := N_are_closed) (sc := defScope s_are_closed) (by decide +kernel)) (fun s H C cl fp => (jgc_name (i := 7) (pg_name (S_are_closed).nd rfl (by first | exact Or.inl rfl | exact Or.inr rfl)) (by decide))) (fun s H C cl fp => jts_nil) (fun s H C cl fp => (je_cmp (jo_in (hu65 hr)) (je_call takes0 (hr.mono (by decide)) rfl (fn_end_of D) (ja_cons (je_var (pv 0)) (ja_cons (je_sub (hu64 hr) (je_var (pv 7)) je_int (by intro _ _; rfl)) (ja_cons (je_sub (hu64 hr) (je_var (pv 7)) je_int (by intro _ _; rfl)) (ja_cons (je_sub (hu64 hr) (je_var (pv 2)) (je_var (pv 7)) (by intro _ _; rfl)) ja_nil))))) (je_var (pv 3)) (by with_unfolding_all rfl)))) ja_nil))))))))))
theorem fn_are_closed (D : HD K mg) : FnG P w K mg base (GG K) 7 "are_closed" f_are_closed := ⟨_, g_are_closed D, (let ⟨_, F⟩ := D.c.d.def_ 28 (d := d_are_closed) rfl; F.kp), fa_are_closed D⟩
theorem fa_is_state (D : HD K mg) : FnA P w K mg base (GG K) 3 (He.ga K "is_state") f_is_state := by
  obtain ⟨fd, F⟩ := D.c.d.def_ 29 (d := d_is_state) rfl
  refine FnA.frame ?_
  refine ⟨fd, P_is_state, FunD.bindsN F fun _ _ _ _ _ _ us hl => match us, hl with | [_, _], _ => rfl, lBody_arity, fn_lt (N := N_is_state) (k := 2) F S_is_state fun cdv A outer s H E hr tk => ?_⟩
  exact (jb_cons (js_if (jt_w (jw_or (jt_not (jt_val (je_isi (ClsV.ty "tuple") (isi_tuple D) rfl (g_isinstance D) (je_var (pv 1)) (pe_bltn rfl (g_tuple D) bt_tuple rfl)))) (jw_or (jt_cmp (jo_ne2 (hu64 hr)) (je_callB jc_len rfl (g_len D) bt_len (ja_cons (je_var (pv 1)) ja_nil)) je_int (nomark _)) (jw_or1 (jt_not (jt_val (je_call tk (hr.mono (by decide)) rfl (fn_is_integer D) (ja_cons (je_sub (hu64 hr) (je_var (pv 1)) je_int (by intro _ _; rfl)) (ja_cons je_int (ja_cons (je_op jo_sub (je_fld (a := 0) (at_ok D) (je_var (pv 0))) je_int) ja_nil)))))))))) (jb_one (js_ret je_bl)) jb_nil) (jb_frc (jb_one (js_ret (je_call tk (hr.mono (by decide)) rfl (fn_is_integer D) (ja_cons (je_sub (hu64 hr) (je_var (pv 1)) je_int (by intro _ _; rfl)) (ja_cons je_int (ja_cons (je_fld (a := 5) (at_ok D) (je_var (pv 0))) ja_nil))))))))
theorem fn_is_state (D : HD K mg) : FnG P w K mg base (GG K) 3 "is_state" f_is_state := ⟨_, g_is_state D, (let ⟨_, F⟩ := D.c.d.def_ 29 (d := d_is_state) rfl; F.kp), fa_is_state D⟩
theorem fa_check_state (D : HD K mg) : FnA P w K mg base (GG K) 4 (He.ga K "check_state") f_check_state := by
  obtain ⟨fd, F⟩ := D.c.d.def_ 30 (d := d_check_state) rfl
  refine FnA.frame ?_
  refine ⟨fd, P_check_state, FunD.bindsN F fun _ _ _ _ _ _ us hl => match us, hl with | [_, _], _ => rfl, lBody_arity, fn_lt (N := N_check_state) (k := 3) F S_check_state fun cdv A outer s H E hr tk => ?_⟩
  exact (jb_cons (js_expr (je_call tk (hr.mono (by decide)) rfl (fn_check_town D) (ja_cons (je_var (pv 0)) ja_nil))) (jb_frc (jb_one (js_if (jt_not (jt_val (je_call tk (hr.mono (by decide)) rfl (fn_is_state D) (ja_cons (je_var (pv 0)) (ja_cons (je_var (pv 1)) ja_nil))))) (jb_one js_bad) jb_nil))))
theorem fn_check_state (D : HD K mg) : FnG P w K mg base (GG K) 4 "check_state" f_check_state := ⟨_, g_check_state D, (let ⟨_, F⟩ := D.c.d.def_ 30 (d := d_check_state) rfl; F.kp), fa_check_state D⟩
theorem fa_Rides_shows (D : HD K mg) : FnA P w K mg base (GG K) 8 (He.ma K (He.ga K "Rides") "shows") f_Rides_shows := by
  obtain ⟨fd, F⟩ := D.c.d.def_ 31 (d := d_Rides_shows) rfl
  refine FnA.frame ?_
  refine ⟨fd, P_Rides_shows, FunD.bindsN F fun _ _ _ _ _ _ us hl => match us, hl with | [_, _, _], _ => rfl, lBody_arity, fn_lt (N := N_Rides_shows) (k := 7) F S_Rides_shows fun cdv A outer s H E hr tk => ?_⟩
  exact (jb_cons (js_expr (je_call tk (hr.mono (by decide)) rfl (fn_check_state D) (ja_cons (je_var (pv 1)) (ja_cons (je_var (pv 2)) ja_nil)))) (jb_frc (jb_one (js_ret (je_and (je_cmp (jo_in (hu65 hr)) (je_var (pv 2)) (je_fld (a := 6) (at_ok D) (je_var (pv 0))) (by with_unfolding_all rfl)) (je_one (je_call tk (hr.mono (by decide)) rfl (fn_are_closed D) (ja_cons (je_var (pv 1)) (ja_cons (je_fld (a := 6) (at_ok D) (je_var (pv 0))) (ja_cons (je_fld (a := 7) (at_ok D) (je_var (pv 0))) ja_nil))))))))))
theorem fa_is_plan (D : HD K mg) : FnA P w K mg base (GG K) 4 (He.ga K "is_plan") f_is_plan := by
  obtain ⟨fd, F⟩ := D.c.d.def_ 32 (d := d_is_plan) rfl
  refine FnA.frame ?_
  refine ⟨fd, P_is_plan, FunD.bindsN F fun _ _ _ _ _ _ us hl => match us, hl with | [_, _], _ => rfl, lBody_arity, fn_lt (N := N_is_plan) (k := 3) F S_is_plan fun cdv A outer s H E hr tk => ?_⟩
  exact (jb_cons (js_for (passes_of rfl) rfl (ji_items (je_var (pv 1))) (jg_tup rfl (jgs_cons (jg_name (i := 2) (pg_name (S_is_plan).nd rfl (by first | exact Or.inl rfl | exact Or.inr rfl))) (jgs_cons (jg_tup rfl (jgs_cons (jg_name (i := 4) (pg_name (S_is_plan).nd rfl (by first | exact Or.inl rfl | exact Or.inr rfl))) (jgs_cons (jg_name (i := 5) (pg_name (S_is_plan).nd rfl (by first | exact Or.inl rfl | exact Or.inr rfl))) jgs_nil))) jgs_nil))) (jb_frc (jb_cons (js_if (jt_w (jw_or (jt_cmp (jo_ltD (hu70 hr)) (je_var (pv 4)) je_int (nomark _)) (jw_or1 (jt_cmp (jo_notIn (hu65 hr)) (je_var (pv 5)) (je_fld (a := 3) (at_ok D) (je_var (pv 0))) (by with_unfolding_all rfl))))) (jb_one (js_ret je_bl)) jb_nil) (jb_frc (jb_one (js_for (passes_of rfl) rfl (ji_val (je_call tk (hr.mono (by decide)) rfl (fn_courses_of D) (ja_cons (je_var (pv 0)) (ja_cons (je_var (pv 2)) (ja_cons (je_var (pv 5)) ja_nil))))) (jg_name (i := 3) (pg_name (S_is_plan).nd rfl (by first | exact Or.inl rfl | exact Or.inr rfl))) (jb_frc (jb_one (js_if (jt_w (jw_or (jt_cmp (jo_notIn (hu65 hr)) (je_var (pv 3)) (je_var (pv 1)) (by with_unfolding_all rfl)) (jw_or1 (jt_cmp jo_ge (je_sub (hu64 hr) (je_sub (hu64 hr) (je_var (pv 1)) (je_var (pv 3)) (by intro _ _; rfl)) je_int (by intro _ _; rfl)) (je_var (pv 4)) (nomark _))))) (jb_one (js_ret je_bl)) jb_nil))))))))) (jb_frc (jb_one (js_ret je_bl))))
theorem fn_is_plan (D : HD K mg) : FnG P w K mg base (GG K) 4 "is_plan" f_is_plan := ⟨_, g_is_plan D, (let ⟨_, F⟩ := D.c.d.def_ 32 (d := d_is_plan) rfl; F.kp), fa_is_plan D⟩
theorem fa_Stalls_shows (D : HD K mg) : FnA P w K mg base (GG K) 5 (He.ma K (He.ga K "Stalls") "shows") f_Stalls_shows := by
  obtain ⟨fd, F⟩ := D.c.d.def_ 33 (d := d_Stalls_shows) rfl
  refine FnA.frame ?_
  refine ⟨fd, P_Stalls_shows, FunD.bindsN F fun _ _ _ _ _ _ us hl => match us, hl with | [_, _, _], _ => rfl, lBody_arity, fn_lt (N := N_Stalls_shows) (k := 4) F S_Stalls_shows fun cdv A outer s H E hr tk => ?_⟩
  exact (jb_cons (js_expr (je_call tk (hr.mono (by decide)) rfl (fn_check_state D) (ja_cons (je_var (pv 1)) (ja_cons (je_var (pv 2)) ja_nil)))) (jb_frc (jb_one (js_ret (je_and (je_cmp (jo_in (hu65 hr)) (je_var (pv 2)) (je_fld (a := 8) (at_ok D) (je_var (pv 0))) (by with_unfolding_all rfl)) (je_one (je_call tk (hr.mono (by decide)) rfl (fn_is_plan D) (ja_cons (je_var (pv 1)) (ja_cons (je_fld (a := 8) (at_ok D) (je_var (pv 0))) ja_nil)))))))))
theorem fa_Soon_holds (D : HD K mg) : FnA P w K mg base (GG K) 7 (He.ma K (He.ga K "Soon") "holds") f_Soon_holds := by
  obtain ⟨fd, F⟩ := D.c.d.def_ 34 (d := d_Soon_holds) rfl
  refine FnA.frame ?_
  refine ⟨fd, P_Soon_holds, FunD.bindsN F fun _ _ _ _ _ _ us hl => match us, hl with | [_, _, _], _ => rfl, lBody_arity, fn_lt (N := N_Soon_holds) (k := 6) F S_Soon_holds fun cdv A outer s H E hr tk => ?_⟩
  exact (jb_cons (js_set (i := 3) (S_Soon_holds).nd rfl (by first | exact Or.inl rfl | exact Or.inr rfl) (je_sub (hu64 hr) (je_fld (a := 14) (at_ok D) (je_var (pv 0))) (je_var (pv 2)) (by intro _ _; rfl))) (jb_frc (jb_cons (js_if (jt_cmp jo_le (je_var (pv 3)) je_int (nomark _)) (jb_one (js_ret je_bl)) jb_nil) (jb_frc (jb_cons (js_for (passes_of rfl) rfl (ji_val (je_fld (a := 3) (at_ok D) (je_var (pv 1)))) (jg_name (i := 4) (pg_name (S_Soon_holds).nd rfl (by first | exact Or.inl rfl | exact Or.inr rfl))) (jb_frc (jb_cons (js_set (i := 5) (S_Soon_holds).nd rfl (by first | exact Or.inl rfl | exact Or.inr rfl) (je_bm (t := 6) (.inr (.inr rfl)) PySem.F.plainAttrs_dict PySem.F.slot_dict_get PySem.F.type_dict_get (jm_get (hu64 hr)) (je_fld (a := 7) (at_ok D) (je_var (pv 0))) (ja_cons (je_tup (ja_cons (je_var (pv 2)) (ja_cons (je_var (pv 4)) ja_nil))) (ja_cons je_non ja_nil)))) (jb_frc (jb_cons (js_set (i := 6) (S_Soon_holds).nd rfl (by first | exact Or.inl rfl | exact Or.inr rfl) (je_if (jt_cmp jo_is2 (je_var (pv 5)) je_non (nomark _)) je_non (je_call tk (hr.mono (by decide)) rfl (fn_end_of D) (ja_cons (je_var (pv 1)) (ja_cons (je_var (pv 2)) (ja_cons (je_var (pv 4)) (ja_cons (je_var (pv 5)) ja_nil))))))) (jb_frc (jb_one (js_if (jt_w (jw_or (jt_cmp jo_is2 (je_var (pv 6)) je_non (nomark _)) (jw_or1 (jt_w (jw_and (jt_cmp jo_gt (je_var (pv 3)) je_int (nomark _)) (jw_and1 (jt_w (jw_or (jt_cmp (jo_notIn (hu65 hr)) (je_var (pv 6)) (je_fld (a := 14) (at_ok D) (je_var (pv 0))) (by with_unfolding_all rfl)) (jw_or1 (jt_cmp (jo_ltD (hu70 hr)) (je_sub (hu64 hr) (je_fld (a := 14) (at_ok D) (je_var (pv 0))) (je_var (pv 6)) (by intro _ _; rfl)) (je_op jo_sub (je_var (pv 3)) je_int) (nomark _))))))))))) (jb_one (js_ret je_bl)) jb_nil)))))))) (jb_frc (jb_one (js_ret je_bl))))))))
theorem mok_holds_6 (D : HD K mg) : MtOk P w K mg base (GG K) 7 "holds" mt_holds_6 := by
  intro c f h
  unfold mt_holds_6 at h
  split at h
  · cases h; exact ⟨cl_Soon D, _, He.meth_ok (D.c.d.fact 112 rfl), (fa_Soon_holds D).mono (by decide)⟩
  · cases h
theorem fa_Soon_shows (D : HD K mg) : FnA P w K mg base (GG K) 8 (He.ma K (He.ga K "Soon") "shows") f_Soon_shows := by
  obtain ⟨fd, F⟩ := D.c.d.def_ 35 (d := d_Soon_shows) rfl
  refine FnA.frame ?_
  refine ⟨fd, P_Soon_shows, FunD.bindsN F fun _ _ _ _ _ _ us hl => match us, hl with | [_, _, _], _ => rfl, lBody_arity, fn_lt (N := N_Soon_shows) (k := 7) F S_Soon_shows fun cdv A outer s H E hr tk => ?_⟩
  exact (jb_cons (js_expr (je_call tk (hr.mono (by decide)) rfl (fn_check_state D) (ja_cons (je_var (pv 1)) (ja_cons (je_var (pv 2)) ja_nil)))) (jb_frc (jb_cons (js_if (jt_w (jw_or (jt_cmp (jo_notIn (hu65 hr)) (je_var (pv 2)) (je_fld (a := 8) (at_ok D) (je_var (pv 0))) (by with_unfolding_all rfl)) (jw_or (jt_cmp jo_gt (je_sub (hu64 hr) (je_sub (hu64 hr) (je_fld (a := 8) (at_ok D) (je_var (pv 0))) (je_var (pv 2)) (by intro _ _; rfl)) je_int (by intro _ _; rfl)) (je_op jo_sub (je_fld (a := 10) (at_ok D) (je_var (pv 0))) je_int) (nomark _)) (jw_or1 (jt_not (jt_val (je_call tk (hr.mono (by decide)) rfl (fn_is_plan D) (ja_cons (je_var (pv 1)) (ja_cons (je_fld (a := 8) (at_ok D) (je_var (pv 0))) ja_nil))))))))) (jb_one (js_ret je_bl)) jb_nil) (jb_frc (jb_cons (js_if (jt_w (jw_or (jt_cmp (jo_notIn (hu65 hr)) (je_var (pv 2)) (je_fld (a := 14) (at_ok D) (je_var (pv 0))) (by with_unfolding_all rfl)) (jw_or1 (jt_cmp (jo_ltD (hu70 hr)) (je_sub (hu64 hr) (je_fld (a := 14) (at_ok D) (je_var (pv 0))) (je_var (pv 2)) (by intro _ _; rfl)) (je_op jo_sub (je_fld (a := 10) (at_ok D) (je_var (pv 0))) je_int) (nomark _))))) (jb_one (js_ret je_bl)) jb_nil) (jb_frc (jb_one (js_ret (je_callB (jc_all rfl) rfl (g_all D) bt_all (ja_cons (je_lc (own := [("one", 3)]) rfl (S_Soon_shows).nd (ji_val (je_fld (a := 14) (at_ok D) (je_var (pv 0)))) (blkOk_by (N := N_Soon_shows) (sc := defScope s_Soon_shows) (by decide +kernel)) (fun s H C cl fp => (jgc_name (i := 3) (pg_name (S_Soon_shows).nd rfl (by first | exact Or.inl rfl | exact Or.inr rfl)) (by decide))) (fun s H C cl fp => jts_nil) (fun s H C cl fp => (je_meth (a := 22) takes0 (hr.mono (by decide)) (mok_holds_6 D) (je_var (pv 0)) (ja_cons (je_var (pv 1)) (ja_cons (je_var (pv 3)) ja_nil))))) ja_nil))))))))))
theorem mok_shows_1_2_6 (D : HD K mg) : MtOk P w K mg base (GG K) 8 "shows" mt_shows_1_2_6 := by
  intro c f h
  unfold mt_shows_1_2_6 at h
  split at h
  · cases h; exact ⟨cl_Rides D, _, He.meth_ok (D.c.d.fact 105 rfl), (fa_Rides_shows D).mono (by decide)⟩
  · cases h; exact ⟨cl_Stalls D, _, He.meth_ok (D.c.d.fact 106 rfl), (fa_Stalls_shows D).mono (by decide)⟩
  · cases h; exact ⟨cl_Soon D, _, He.meth_ok (D.c.d.fact 108 rfl), (fa_Soon_shows D).mono (by decide)⟩
  · cases h
theorem fa_Battery_does_stall (D : HD K mg) : FnA P w K mg base (GG K) 9 (He.ma K (He.ga K "Battery") "does_stall") f_Battery_does_stall := by
  obtain ⟨fd, F⟩ := D.c.d.def_ 36 (d := d_Battery_does_stall) rfl
  refine FnA.frame ?_
  refine ⟨fd, P_Battery_does_stall, FunD.bindsN F fun _ _ _ _ _ _ us hl => match us, hl with | [_, _, _, _], _ => rfl, lBody_arity, fn_lt (N := N_Battery_does_stall) (k := 8) F S_Battery_does_stall fun cdv A outer s H E hr tk => ?_⟩
  exact (jb_cons (js_if (jt_not (jt_val (je_isi (ClsV.own _) (isi_Stalls D) rfl (g_isinstance D) (je_fld (a := 12) (at_ok D) (je_var (pv 0))) (pe_glob rfl (g_Stalls D) rfl)))) (jb_one (js_ret je_bl)) jb_nil) (jb_frc (jb_one (js_ret (je_meth (a := 18) tk (hr.mono (by decide)) (mok_shows_1_2_6 D) (je_fld (a := 12) (at_ok D) (je_var (pv 0))) (ja_cons (je_call tk (hr.mono (by decide)) rfl (fn_with_battery D) (ja_cons (je_var (pv 1)) (ja_cons (je_var (pv 3)) ja_nil))) (ja_cons (je_tup (ja_cons (je_var (pv 2)) (ja_cons (je_var (pv 3)) ja_nil))) ja_nil)))))))
theorem mok_does_stall_4 (D : HD K mg) : MtOk P w K mg base (GG K) 9 "does_stall" mt_does_stall_4 := by
  intro c f h
  unfold mt_does_stall_4 at h
  split at h
  · cases h; exact ⟨cl_Battery D, _, He.meth_ok (D.c.d.fact 111 rfl), (fa_Battery_does_stall D).mono (by decide)⟩
  · cases h
theorem fa_Battery_shows (D : HD K mg) : FnA P w K mg base (GG K) 10 (He.ma K (He.ga K "Battery") "shows") f_Battery_shows := by
  obtain ⟨fd, F⟩ := D.c.d.def_ 37 (d := d_Battery_shows) rfl
  refine FnA.frame ?_
  refine ⟨fd, P_Battery_shows, FunD.bindsN F fun _ _ _ _ _ _ us hl => match us, hl with | [_, _, _], _ => rfl, lBody_arity, fn_lt (N := N_Battery_shows) (k := 9) F S_Battery_shows fun cdv A outer s H E hr tk => ?_⟩
  exact (jb_cons (js_expr (je_call tk (hr.mono (by decide)) rfl (fn_check_place D) (ja_cons (je_var (pv 1)) (ja_cons (je_var (pv 2)) ja_nil)))) (jb_frc (jb_cons (js_if (jt_cmp jo_is2 (je_fld (a := 10) (at_ok D) (je_var (pv 0))) je_non (nomark _)) (jb_one (js_ret (je_and (je_cmp jo_is2 (je_fld (a := 11) (at_ok D) (je_var (pv 0))) je_non (nomark _)) (je_one (je_meth (a := 21) tk (hr.mono (by decide)) (mok_does_stall_4 D) (je_var (pv 0)) (ja_cons (je_var (pv 1)) (ja_cons (je_var (pv 2)) (ja_cons (je_c (pe_k_MAX_BATTERY D rfl rfl rfl) (fun μ H => vr_MAX_BATTERY D μ H)) ja_nil)))))))) jb_nil) (jb_frc (jb_cons (js_if (jt_w (jw_or (jt_not (jt_val (je_call tk (hr.mono (by decide)) rfl (fn_is_integer D) (ja_cons (je_fld (a := 10) (at_ok D) (je_var (pv 0))) (ja_cons je_int (ja_cons (je_c (pe_k_MAX_BATTERY D rfl rfl rfl) (fun μ H => vr_MAX_BATTERY D μ H)) ja_nil)))))) (jw_or1 (jt_not (jt_val (je_isi (ClsV.own _) (isi_Rides D) rfl (g_isinstance D) (je_fld (a := 11) (at_ok D) (je_var (pv 0))) (pe_glob rfl (g_Rides D) rfl))))))) (jb_one (js_ret je_bl)) jb_nil) (jb_frc (jb_cons (js_if (jt_not (jt_val (je_meth (a := 18) tk (hr.mono (by decide)) (mok_shows_1_2_6 D) (je_fld (a := 11) (at_ok D) (je_var (pv 0))) (ja_cons (je_call tk (hr.mono (by decide)) rfl (fn_with_battery D) (ja_cons (je_var (pv 1)) (ja_cons (je_fld (a := 10) (at_ok D) (je_var (pv 0))) ja_nil))) (ja_cons (je_tup (ja_cons (je_var (pv 2)) (ja_cons (je_fld (a := 10) (at_ok D) (je_var (pv 0))) ja_nil))) ja_nil))))) (jb_one (js_ret je_bl)) jb_nil) (jb_frc (jb_cons (js_if (jt_cmp (jo_eq2 (hu64 hr)) (je_fld (a := 10) (at_ok D) (je_var (pv 0))) je_int (nomark _)) (jb_one (js_ret (je_cmp jo_is2 (je_fld (a := 12) (at_ok D) (je_var (pv 0))) je_non (nomark _)))) jb_nil) (jb_frc (jb_one (js_ret (je_meth (a := 21) tk (hr.mono (by decide)) (mok_does_stall_4 D) (je_var (pv 0)) (ja_cons (je_var (pv 1)) (ja_cons (je_var (pv 2)) (ja_cons (je_op jo_sub (je_fld (a := 10) (at_ok D) (je_var (pv 0))) je_int) ja_nil))))))))))))))))
theorem mok_shows_1_2_4_6 (D : HD K mg) : MtOk P w K mg base (GG K) 10 "shows" mt_shows_1_2_4_6 := by
  intro c f h
  unfold mt_shows_1_2_4_6 at h
  split at h
  · cases h; exact ⟨cl_Rides D, _, He.meth_ok (D.c.d.fact 105 rfl), (fa_Rides_shows D).mono (by decide)⟩
  · cases h; exact ⟨cl_Stalls D, _, He.meth_ok (D.c.d.fact 106 rfl), (fa_Stalls_shows D).mono (by decide)⟩
  · cases h; exact ⟨cl_Battery D, _, He.meth_ok (D.c.d.fact 107 rfl), (fa_Battery_shows D).mono (by decide)⟩
  · cases h; exact ⟨cl_Soon D, _, He.meth_ok (D.c.d.fact 108 rfl), (fa_Soon_shows D).mono (by decide)⟩
  · cases h
theorem fa__law_batteries_right (D : HD K mg) : FnA P w K mg base (GG K) 11 (He.ga K "_law_batteries_right") f__law_batteries_right := by
  obtain ⟨fd, F⟩ := D.c.d.def_ 38 (d := d__law_batteries_right) rfl
  refine FnA.frame (FnA.memo tok__law_batteries_right ?_)
  refine FnA.frame ?_
  refine ⟨fd, P__law_batteries_right, FunD.bindsN F fun _ _ _ _ _ _ us hl => match us, hl with | [_], _ => rfl, lBody_arity, fn_lt (N := N__law_batteries_right) (k := 10) F S__law_batteries_right fun cdv A outer s H E hr tk => ?_⟩
  exact (jb_cons (js_set (i := 1) (S__law_batteries_right).nd rfl (by first | exact Or.inl rfl | exact Or.inr rfl) (je_make tk (hr.mono (by decide)) rfl (mk_Town D) (ja_cons je_int (ja_cons (je_tup (ja_cons (je_tup (ja_cons je_int (ja_cons je_int (ja_cons je_int (ja_cons je_int ja_nil))))) ja_nil)) (ja_cons (je_tup (ja_cons je_int (ja_cons je_int ja_nil))) (ja_cons (je_tup (ja_cons (je_tup (ja_cons je_int (ja_cons je_int ja_nil))) ja_nil)) (ja_cons je_int (ja_cons je_int ja_nil)))))))) (jb_frc (jb_cons (js_set (i := 2) (S__law_batteries_right).nd rfl (by first | exact Or.inl rfl | exact Or.inr rfl) (je_make tk (hr.mono (by decide)) rfl (mk_Town D) (ja_cons je_int (ja_cons (je_tup (ja_cons (je_tup (ja_cons je_int (ja_cons je_int (ja_cons je_int (ja_cons je_int ja_nil))))) ja_nil)) (ja_cons (je_tup (ja_cons je_int (ja_cons je_int ja_nil))) (ja_cons (je_tup (ja_cons (je_tup (ja_cons je_int (ja_cons je_int ja_nil))) ja_nil)) (ja_cons je_int (ja_cons je_int ja_nil)))))))) (jb_frc (jb_cons (js_set (i := 3) (S__law_batteries_right).nd rfl (by first | exact Or.inl rfl | exact Or.inr rfl) (je_tup (ja_cons (je_tup (ja_cons (je_strE hs_1) (ja_cons je_int ja_nil))) (ja_cons (je_tup (ja_cons (je_strE hs_0) ja_nil)) (ja_cons (je_tup (ja_cons (je_strE hs_1) (ja_cons je_int ja_nil))) (ja_cons (je_tup (ja_cons (je_strE hs_0) ja_nil)) ja_nil)))))) (jb_frc (jb_cons (js_set (i := 4) (S__law_batteries_right).nd rfl (by first | exact Or.inl rfl | exact Or.inr rfl) (je_make tk (hr.mono (by decide)) rfl (mk_Rides D) (ja_cons (je_lst (ja_cons (je_tup (ja_cons je_int (ja_cons je_int ja_nil))) ja_nil)) (ja_cons (je_callTy (jc_dict rfl (hu70 hr)) rfl (g_dict D) bt_dict (ja_cons (je_lst (ja_cons (je_tup (ja_cons (je_tup (ja_cons (je_tup (ja_cons je_int (ja_cons je_int ja_nil))) (ja_cons (je_tup (ja_cons je_int (ja_cons je_int ja_nil))) ja_nil))) (ja_cons (je_var (pv 3)) ja_nil))) ja_nil)) ja_nil)) ja_nil)))) (jb_frc (jb_cons (js_if (jt_w (jw_or (jt_cmp (jo_ne2 (hu64 hr)) (je_call tk (hr.mono (by decide)) rfl (fn_least_battery D) (ja_cons (je_var (pv 1)) (ja_cons je_int ja_nil))) je_int (nomark _)) (jw_or1 (jt_cmp jo_isnot2 (je_meth (a := 18) tk (hr.mono (by decide)) (mok_shows_1_2_4_6 D) (je_var (pv 4)) (ja_cons (je_var (pv 2)) (ja_cons (je_tup (ja_cons je_int (ja_cons je_int ja_nil))) ja_nil))) je_bl (nomark _))))) (jb_one (js_ret je_bl)) jb_nil) (jb_frc (jb_cons (js_if (jt_w (jw_or (jt_cmp jo_isnot2 (je_meth (a := 18) tk (hr.mono (by decide)) (mok_shows_1_2_4_6 D) (je_make tk (hr.mono (by decide)) rfl (mk_Battery D) (ja_cons je_int (ja_cons (je_var (pv 4)) (ja_cons je_non ja_nil)))) (ja_cons (je_var (pv 1)) (ja_cons je_int ja_nil))) je_bl (nomark _)) (jw_or1 (jt_val (je_meth (a := 18) tk (hr.mono (by decide)) (mok_shows_1_2_4_6 D) (je_make tk (hr.mono (by decide)) rfl (mk_Battery D) (ja_cons je_int (ja_cons (je_var (pv 4)) (ja_cons (je_make tk (hr.mono (by decide)) rfl (mk_Stalls D) (ja_cons je_dnew ja_nil)) ja_nil)))) (ja_cons (je_var (pv 1)) (ja_cons je_int ja_nil))))))) (jb_one (js_ret je_bl)) jb_nil) (jb_frc (jb_cons (js_set (i := 5) (S__law_batteries_right).nd rfl (by first | exact Or.inl rfl | exact Or.inr rfl) (je_call tk (hr.mono (by decide)) rfl (fn_battery D) (ja_cons (je_var (pv 0)) (ja_cons je_int ja_nil)))) (jb_frc (jb_cons (js_if (jt_cmp jo_isnot2 (je_meth (a := 18) tk (hr.mono (by decide)) (mok_shows_1_2_4_6 D) (je_make tk (hr.mono (by decide)) rfl (mk_Battery D) (ja_cons je_non (ja_cons je_non (ja_cons (je_fld (a := 12) (at_ok D) (je_var (pv 5))) ja_nil)))) (ja_cons (je_var (pv 0)) (ja_cons je_int ja_nil))) je_bl (nomark _)) (jb_one (js_ret je_bl)) jb_nil) (jb_frc (jb_cons (js_if (jt_val (je_meth (a := 18) tk (hr.mono (by decide)) (mok_shows_1_2_4_6 D) (je_make tk (hr.mono (by decide)) rfl (mk_Battery D) (ja_cons je_non (ja_cons (je_make tk (hr.mono (by decide)) rfl (mk_Rides D) (ja_cons (je_lst ja_nil) (ja_cons je_dnew ja_nil))) (ja_cons (je_fld (a := 12) (at_ok D) (je_var (pv 5))) ja_nil)))) (ja_cons (je_var (pv 0)) (ja_cons je_int ja_nil)))) (jb_one (js_ret je_bl)) jb_nil) (jb_frc (jb_one (js_ret (je_not (je_meth (a := 18) tk (hr.mono (by decide)) (mok_shows_1_2_4_6 D) (je_make tk (hr.mono (by decide)) rfl (mk_Battery D) (ja_cons je_int (ja_cons (je_var (pv 4)) (ja_cons je_non ja_nil)))) (ja_cons (je_var (pv 0)) (ja_cons je_int ja_nil))))))))))))))))))))))))
theorem fn__law_batteries_right (D : HD K mg) : FnG P w K mg base (GG K) 11 "_law_batteries_right" f__law_batteries_right := ⟨_, g__law_batteries_right D, (let ⟨_, F⟩ := D.c.d.def_ 38 (d := d__law_batteries_right) rfl; F.kp), fa__law_batteries_right D⟩
theorem fa_check_order (D : HD K mg) : FnA P w K mg base (GG K) 4 (He.ga K "check_order") f_check_order := by
  obtain ⟨fd, F⟩ := D.c.d.def_ 39 (d := d_check_order) rfl
  refine FnA.frame ?_
  refine ⟨fd, P_check_order, FunD.bindsN F fun _ _ _ _ _ _ us hl => match us, hl with | [_, _], _ => rfl, lBody_arity, fn_lt (N := N_check_order) (k := 3) F S_check_order fun cdv A outer s H E hr tk => ?_⟩
  exact (jb_one (js_if (jt_w (jw_or (jt_not (jt_val (je_call tk (hr.mono (by decide)) rfl (fn_is_pair D) (ja_cons (je_var (pv 1)) (ja_cons (je_fld (a := 0) (at_ok D) (je_var (pv 0))) ja_nil))))) (jw_or1 (jt_cmp (jo_notIn (hu65 hr)) (je_var (pv 1)) (je_fld (a := 3) (at_ok D) (je_var (pv 0))) (by with_unfolding_all rfl))))) (jb_one js_bad) jb_nil))
theorem fn_check_order (D : HD K mg) : FnG P w K mg base (GG K) 4 "check_order" f_check_order := ⟨_, g_check_order D, (let ⟨_, F⟩ := D.c.d.def_ 39 (d := d_check_order) rfl; F.kp), fa_check_order D⟩
theorem fa_course_of (D : HD K mg) : FnA P w K mg base (GG K) 6 (He.ga K "course_of") f_course_of := by
  obtain ⟨fd, F⟩ := D.c.d.def_ 40 (d := d_course_of) rfl
  refine FnA.frame ?_
  refine ⟨fd, P_course_of, FunD.bindsN F fun _ _ _ _ _ _ us hl => match us, hl with | [_, _, _], _ => rfl, lBody_arity, fn_lt (N := N_course_of) (k := 5) F S_course_of fun cdv A outer s H E hr tk => ?_⟩
  exact (jb_cons (js_if (jt_not (jt_val (je_isi2 (ClsV.ty "list") (ClsV.ty "tuple") (isi_list_tuple D) rfl (g_isinstance D) (je_var (pv 2)) (pe_bltn rfl (g_list D) bt_list rfl) (pe_bltn rfl (g_tuple D) bt_tuple rfl)))) (jb_one js_bad) jb_nil) (jb_frc (jb_cons (js_asg (je_call tk (hr.mono (by decide)) rfl (fn_walked D) (ja_cons (je_var (pv 0)) (ja_cons (je_var (pv 1)) (ja_cons (je_var (pv 2)) ja_nil)))) (jg_tup rfl (jgs_cons (jg_name (i := 3) (pg_name (S_course_of).nd rfl (by first | exact Or.inl rfl | exact Or.inr rfl))) (jgs_cons (jg_name (i := 4) (pg_name (S_course_of).nd rfl (by first | exact Or.inl rfl | exact Or.inr rfl))) (jgs_cons (jg_name (i := 5) (pg_name (S_course_of).nd rfl (by first | exact Or.inl rfl | exact Or.inr rfl))) jgs_nil))))) (jb_frc (jb_cons (js_if (jt_cmp jo_isnot2 (je_var (pv 5)) je_non (nomark _)) (jb_one js_bad) jb_nil) (jb_frc (jb_one (js_ret (je_tup (ja_cons (je_var (pv 3)) (ja_cons (je_var (pv 4)) ja_nil)))))))))))
theorem fn_course_of (D : HD K mg) : FnG P w K mg base (GG K) 6 "course_of" f_course_of := ⟨_, g_course_of D, (let ⟨_, F⟩ := D.c.d.def_ 40 (d := d_course_of) rfl; F.kp), fa_course_of D⟩
theorem fa_carries (D : HD K mg) : FnA P w K mg base (GG K) 7 (He.ga K "carries") f_carries := by
  obtain ⟨fd, F⟩ := D.c.d.def_ 41 (d := d_carries) rfl
  refine FnA.frame ?_
  refine ⟨fd, P_carries, FunD.bindsN F fun _ _ _ _ _ _ us hl => match us, hl with | [_, _, _, _], _ => rfl, lBody_arity, fn_lt (N := N_carries) (k := 6) F S_carries fun cdv A outer s H E hr tk => ?_⟩
  exact (jb_cons (js_expr (je_call tk (hr.mono (by decide)) rfl (fn_check_state D) (ja_cons (je_var (pv 0)) (ja_cons (je_var (pv 1)) ja_nil)))) (jb_frc (jb_cons (js_expr (je_call tk (hr.mono (by decide)) rfl (fn_check_order D) (ja_cons (je_var (pv 0)) (ja_cons (je_var (pv 2)) ja_nil)))) (jb_frc (jb_one (js_ret (je_call tk (hr.mono (by decide)) rfl (fn_does_carry D) (ja_cons (je_var (pv 2)) (ja_cons (je_sub (hu64 hr) (je_call tk (hr.mono (by decide)) rfl (fn_course_of D) (ja_cons (je_var (pv 0)) (ja_cons (je_var (pv 1)) (ja_cons (je_var (pv 3)) ja_nil)))) je_int (by intro _ _; rfl)) ja_nil)))))))))
theorem fn_carries (D : HD K mg) : FnG P w K mg base (GG K) 7 "carries" f_carries := ⟨_, g_carries D, (let ⟨_, F⟩ := D.c.d.def_ 41 (d := d_carries) rfl; F.kp), fa_carries D⟩
theorem fa_course_to (D : HD K mg) : FnA P w K mg base (GG K) 5 (He.ga K "course_to") f_course_to := by
  obtain ⟨fd, F⟩ := D.c.d.def_ 42 (d := d_course_to) rfl
  refine FnA.frame ?_
  refine ⟨fd, P_course_to, FunD.bindsN F fun _ _ _ _ _ _ us hl => match us, hl with | [_, _, _, _], _ => rfl, lBody_arity, fn_lt (N := N_course_to) (k := 4) F S_course_to fun cdv A outer s H E hr tk => ?_⟩
  exact (jb_cons (js_expr (je_call tk (hr.mono (by decide)) rfl (fn_check_state D) (ja_cons (je_var (pv 0)) (ja_cons (je_var (pv 1)) ja_nil)))) (jb_frc (jb_cons (js_expr (je_call tk (hr.mono (by decide)) rfl (fn_check_order D) (ja_cons (je_var (pv 0)) (ja_cons (je_var (pv 2)) ja_nil)))) (jb_frc (jb_cons (js_if (jt_not (jt_val (je_call tk (hr.mono (by decide)) rfl (fn_is_state D) (ja_cons (je_var (pv 0)) (ja_cons (je_var (pv 3)) ja_nil))))) (jb_one js_bad) jb_nil) (jb_frc (jb_one (js_ret (je_bm (t := 6) (.inr (.inr rfl)) PySem.F.plainAttrs_dict PySem.F.slot_dict_get PySem.F.type_dict_get (jm_get (hu64 hr)) (je_call tk (hr.mono (by decide)) rfl (fn_courses_of D) (ja_cons (je_var (pv 0)) (ja_cons (je_var (pv 1)) (ja_cons (je_var (pv 2)) ja_nil)))) (ja_cons (je_var (pv 3)) (ja_cons je_non ja_nil)))))))))))
theorem fn_course_to (D : HD K mg) : FnG P w K mg base (GG K) 5 "course_to" f_course_to := ⟨_, g_course_to D, (let ⟨_, F⟩ := D.c.d.def_ 42 (d := d_course_to) rfl; F.kp), fa_course_to D⟩
theorem fa_ends (D : HD K mg) : FnA P w K mg base (GG K) 5 (He.ga K "ends") f_ends := by
  obtain ⟨fd, F⟩ := D.c.d.def_ 43 (d := d_ends) rfl
  refine FnA.frame ?_
  refine ⟨fd, P_ends, FunD.bindsN F fun _ _ _ _ _ _ us hl => match us, hl with | [_, _, _], _ => rfl, lBody_arity, fn_lt (N := N_ends) (k := 4) F S_ends fun cdv A outer s H E hr tk => ?_⟩
  exact (jb_cons (js_expr (je_call tk (hr.mono (by decide)) rfl (fn_check_state D) (ja_cons (je_var (pv 0)) (ja_cons (je_var (pv 1)) ja_nil)))) (jb_frc (jb_cons (js_expr (je_call tk (hr.mono (by decide)) rfl (fn_check_order D) (ja_cons (je_var (pv 0)) (ja_cons (je_var (pv 2)) ja_nil)))) (jb_frc (jb_one (js_ret (je_callTy (jc_list rfl) rfl (g_list D) bt_list (ja_cons (je_call tk (hr.mono (by decide)) rfl (fn_courses_of D) (ja_cons (je_var (pv 0)) (ja_cons (je_var (pv 1)) (ja_cons (je_var (pv 2)) ja_nil)))) ja_nil))))))))
theorem fn_ends (D : HD K mg) : FnG P w K mg base (GG K) 5 "ends" f_ends := ⟨_, g_ends D, (let ⟨_, F⟩ := D.c.d.def_ 43 (d := d_ends) rfl; F.kp), fa_ends D⟩
theorem fa_check_course (D : HD K mg) : FnA P w K mg base (GG K) 7 (He.ga K "check_course") f_check_course := by
  obtain ⟨fd, F⟩ := D.c.d.def_ 44 (d := d_check_course) rfl
  refine FnA.frame ?_
  refine ⟨fd, P_check_course, FunD.bindsN F fun _ _ _ _ _ _ us hl => match us, hl with | [_, _, _], _ => rfl, lBody_arity, fn_lt (N := N_check_course) (k := 6) F S_check_course fun cdv A outer s H E hr tk => ?_⟩
  exact (jb_cons (js_expr (je_call tk (hr.mono (by decide)) rfl (fn_check_state D) (ja_cons (je_var (pv 0)) (ja_cons (je_var (pv 1)) ja_nil)))) (jb_frc (jb_one (js_ret (je_call tk (hr.mono (by decide)) rfl (fn_course_of D) (ja_cons (je_var (pv 0)) (ja_cons (je_var (pv 1)) (ja_cons (je_var (pv 2)) ja_nil))))))))
theorem fn_check_course (D : HD K mg) : FnG P w K mg base (GG K) 7 "check_course" f_check_course := ⟨_, g_check_course D, (let ⟨_, F⟩ := D.c.d.def_ 44 (d := d_check_course) rfl; F.kp), fa_check_course D⟩
theorem fa_minutes (D : HD K mg) : FnA P w K mg base (GG K) 8 (He.ga K "minutes") f_minutes := by
  obtain ⟨fd, F⟩ := D.c.d.def_ 45 (d := d_minutes) rfl
  refine FnA.frame ?_
  refine ⟨fd, P_minutes, FunD.bindsN F fun _ _ _ _ _ _ us hl => match us, hl with | [_, _, _], _ => rfl, lBody_arity, fn_lt (N := N_minutes) (k := 7) F S_minutes fun cdv A outer s H E hr tk => ?_⟩
  exact (jb_one (js_ret (je_sub (hu64 hr) (je_call tk (hr.mono (by decide)) rfl (fn_check_course D) (ja_cons (je_var (pv 0)) (ja_cons (je_var (pv 1)) (ja_cons (je_var (pv 2)) ja_nil)))) je_int (by intro _ _; rfl))))
theorem fn_minutes (D : HD K mg) : FnG P w K mg base (GG K) 8 "minutes" f_minutes := ⟨_, g_minutes D, (let ⟨_, F⟩ := D.c.d.def_ 45 (d := d_minutes) rfl; F.kp), fa_minutes D⟩
theorem fa_walk (D : HD K mg) : FnA P w K mg base (GG K) 8 (He.ga K "walk") f_walk := by
  obtain ⟨fd, F⟩ := D.c.d.def_ 46 (d := d_walk) rfl
  refine FnA.frame ?_
  refine ⟨fd, P_walk, FunD.bindsN F fun _ _ _ _ _ _ us hl => match us, hl with | [_, _, _], _ => rfl, lBody_arity, fn_lt (N := N_walk) (k := 7) F S_walk fun cdv A outer s H E hr tk => ?_⟩
  exact (jb_one (js_ret (je_sub (hu64 hr) (je_call tk (hr.mono (by decide)) rfl (fn_check_course D) (ja_cons (je_var (pv 0)) (ja_cons (je_var (pv 1)) (ja_cons (je_var (pv 2)) ja_nil)))) je_int (by intro _ _; rfl))))
theorem fn_walk (D : HD K mg) : FnG P w K mg base (GG K) 8 "walk" f_walk := ⟨_, g_walk D, (let ⟨_, F⟩ := D.c.d.def_ 46 (d := d_walk) rfl; F.kp), fa_walk D⟩
theorem fa__law_courses_right (D : HD K mg) : FnA P w K mg base (GG K) 9 (He.ga K "_law_courses_right") f__law_courses_right := by
  obtain ⟨fd, F⟩ := D.c.d.def_ 47 (d := d__law_courses_right) rfl
  refine FnA.frame (FnA.memo tok__law_courses_right ?_)
  refine FnA.frame ?_
  refine ⟨fd, P__law_courses_right, FunD.bindsN F fun _ _ _ _ _ _ us hl => match us, hl with | [_, _], _ => rfl, lBody_arity, fn_lt (N := N__law_courses_right) (k := 8) F S__law_courses_right fun cdv A outer s H E hr tk => ?_⟩
  exact (jb_cons (js_set (i := 2) (S__law_courses_right).nd rfl (by first | exact Or.inl rfl | exact Or.inr rfl) (je_tup (ja_cons (je_tup (ja_cons (je_strE hs_1) (ja_cons je_int ja_nil))) (ja_cons (je_tup (ja_cons (je_strE hs_0) ja_nil)) (ja_cons (je_tup (ja_cons (je_strE hs_1) (ja_cons je_int ja_nil))) ja_nil))))) (jb_frc (jb_cons (js_if (jt_cmp (jo_ne2 (hu64 hr)) (je_call tk (hr.mono (by decide)) rfl (fn_walk D) (ja_cons (je_var (pv 1)) (ja_cons (je_tup (ja_cons je_int (ja_cons je_int ja_nil))) (ja_cons (je_var (pv 2)) ja_nil)))) (je_lst (ja_cons (je_tup (ja_cons je_int (ja_cons je_int ja_nil))) (ja_cons (je_tup (ja_cons je_int (ja_cons je_int ja_nil))) (ja_cons (je_tup (ja_cons je_int (ja_cons je_int ja_nil))) (ja_cons (je_tup (ja_cons je_int (ja_cons je_int ja_nil))) ja_nil))))) (nomark _)) (jb_one (js_ret je_bl)) jb_nil) (jb_frc (jb_cons (js_if (jt_cmp (jo_ne2 (hu64 hr)) (je_call tk (hr.mono (by decide)) rfl (fn_minutes D) (ja_cons (je_var (pv 1)) (ja_cons (je_tup (ja_cons je_int (ja_cons je_int ja_nil))) (ja_cons (je_var (pv 2)) ja_nil)))) je_int (nomark _)) (jb_one (js_ret je_bl)) jb_nil) (jb_frc (jb_cons (js_if (jt_w (jw_or (jt_not (jt_val (je_call tk (hr.mono (by decide)) rfl (fn_carries D) (ja_cons (je_var (pv 1)) (ja_cons (je_tup (ja_cons je_int (ja_cons je_int ja_nil))) (ja_cons (je_tup (ja_cons je_int (ja_cons je_int ja_nil))) (ja_cons (je_var (pv 2)) ja_nil))))))) (jw_or1 (jt_val (je_call tk (hr.mono (by decide)) rfl (fn_carries D) (ja_cons (je_var (pv 1)) (ja_cons (je_tup (ja_cons je_int (ja_cons je_int ja_nil))) (ja_cons (je_tup (ja_cons je_int (ja_cons je_int ja_nil))) (ja_cons (je_var (pv 2)) ja_nil))))))))) (jb_one (js_ret je_bl)) jb_nil) (jb_frc (jb_cons (js_if (jt_val (je_call tk (hr.mono (by decide)) rfl (fn_carries D) (ja_cons (je_var (pv 1)) (ja_cons (je_tup (ja_cons je_int (ja_cons je_int ja_nil))) (ja_cons (je_tup (ja_cons je_int (ja_cons je_int ja_nil))) (ja_cons (je_tup (ja_cons (je_tup (ja_cons (je_strE hs_1) (ja_cons je_int ja_nil))) ja_nil)) ja_nil)))))) (jb_one (js_ret je_bl)) jb_nil) (jb_frc (jb_cons (js_if (jt_not (jt_val (je_call tk (hr.mono (by decide)) rfl (fn_carries D) (ja_cons (je_var (pv 1)) (ja_cons (je_tup (ja_cons je_int (ja_cons je_int ja_nil))) (ja_cons (je_tup (ja_cons je_int (ja_cons je_int ja_nil))) (ja_cons (je_tup (ja_cons (je_tup (ja_cons (je_strE hs_1) (ja_cons je_int ja_nil))) (ja_cons (je_tup (ja_cons (je_strE hs_1) (ja_cons je_int ja_nil))) ja_nil))) ja_nil))))))) (jb_one (js_ret je_bl)) jb_nil) (jb_frc (jb_cons (js_if (jt_cmp (jo_ne2 (hu64 hr)) (je_call tk (hr.mono (by decide)) rfl (fn_ends D) (ja_cons (je_var (pv 1)) (ja_cons (je_tup (ja_cons je_int (ja_cons je_int ja_nil))) (ja_cons (je_tup (ja_cons je_int (ja_cons je_int ja_nil))) ja_nil)))) (je_lst (ja_cons (je_tup (ja_cons je_int (ja_cons je_int ja_nil))) (ja_cons (je_tup (ja_cons je_int (ja_cons je_int ja_nil))) (ja_cons (je_tup (ja_cons je_int (ja_cons je_int ja_nil))) (ja_cons (je_tup (ja_cons je_int (ja_cons je_int ja_nil))) ja_nil))))) (nomark _)) (jb_one (js_ret je_bl)) jb_nil) (jb_frc (jb_cons (js_if (jt_cmp (jo_ne2 (hu64 hr)) (je_call tk (hr.mono (by decide)) rfl (fn_ends D) (ja_cons (je_var (pv 1)) (ja_cons (je_tup (ja_cons je_int (ja_cons je_int ja_nil))) (ja_cons (je_tup (ja_cons je_int (ja_cons je_int ja_nil))) ja_nil)))) (je_lst ja_nil) (nomark _)) (jb_one (js_ret je_bl)) jb_nil) (jb_frc (jb_cons (js_if (jt_cmp (jo_ne2 (hu64 hr)) (je_call tk (hr.mono (by decide)) rfl (fn_ends D) (ja_cons (je_var (pv 0)) (ja_cons (je_tup (ja_cons je_int (ja_cons je_int ja_nil))) (ja_cons (je_tup (ja_cons je_int (ja_cons je_int ja_nil))) ja_nil)))) (je_lst (ja_cons (je_tup (ja_cons je_int (ja_cons je_int ja_nil))) (ja_cons (je_tup (ja_cons je_int (ja_cons je_int ja_nil))) (ja_cons (je_tup (ja_cons je_int (ja_cons je_int ja_nil))) (ja_cons (je_tup (ja_cons je_int (ja_cons je_int ja_nil))) ja_nil))))) (nomark _)) (jb_one (js_ret je_bl)) jb_nil) (jb_frc (jb_cons (js_if (jt_cmp (jo_ne2 (hu64 hr)) (je_call tk (hr.mono (by decide)) rfl (fn_ends D) (ja_cons (je_var (pv 0)) (ja_cons (je_tup (ja_cons je_int (ja_cons je_int ja_nil))) (ja_cons (je_tup (ja_cons je_int (ja_cons je_int ja_nil))) ja_nil)))) (je_lst (ja_cons (je_tup (ja_cons je_int (ja_cons je_int ja_nil))) ja_nil)) (nomark _)) (jb_one (js_ret je_bl)) jb_nil) (jb_frc (jb_cons (js_if (jt_cmp (jo_ne2 (hu64 hr)) (je_call tk (hr.mono (by decide)) rfl (fn_ends D) (ja_cons (je_var (pv 0)) (ja_cons (je_tup (ja_cons je_int (ja_cons je_int ja_nil))) (ja_cons (je_tup (ja_cons je_int (ja_cons je_int ja_nil))) ja_nil)))) (je_lst (ja_cons (je_tup (ja_cons je_int (ja_cons je_int ja_nil))) (ja_cons (je_tup (ja_cons je_int (ja_cons je_int ja_nil))) (ja_cons (je_tup (ja_cons je_int (ja_cons je_int ja_nil))) (ja_cons (je_tup (ja_cons je_int (ja_cons je_int ja_nil))) (ja_cons (je_tup (ja_cons je_int (ja_cons je_int ja_nil))) (ja_cons (je_tup (ja_cons je_int (ja_cons je_int ja_nil))) (ja_cons (je_tup (ja_cons je_int (ja_cons je_int ja_nil))) ja_nil)))))))) (nomark _)) (jb_one (js_ret je_bl)) jb_nil) (jb_frc (jb_cons (js_if (jt_cmp (jo_ne2 (hu64 hr)) (je_call tk (hr.mono (by decide)) rfl (fn_course_to D) (ja_cons (je_var (pv 0)) (ja_cons (je_tup (ja_cons je_int (ja_cons je_int ja_nil))) (ja_cons (je_tup (ja_cons je_int (ja_cons je_int ja_nil))) (ja_cons (je_tup (ja_cons je_int (ja_cons je_int ja_nil))) ja_nil))))) (je_tup (ja_cons (je_tup (ja_cons (je_strE hs_0) ja_nil)) (ja_cons (je_tup (ja_cons (je_strE hs_0) ja_nil)) (ja_cons (je_tup (ja_cons (je_strE hs_1) (ja_cons je_int ja_nil))) (ja_cons (je_tup (ja_cons (je_strE hs_1) (ja_cons je_int ja_nil))) ja_nil))))) (nomark _)) (jb_one (js_ret je_bl)) jb_nil) (jb_frc (jb_one (js_ret (je_and (je_cmp jo_is2 (je_call tk (hr.mono (by decide)) rfl (fn_course_to D) (ja_cons (je_var (pv 0)) (ja_cons (je_tup (ja_cons je_int (ja_cons je_int ja_nil))) (ja_cons (je_tup (ja_cons je_int (ja_cons je_int ja_nil))) (ja_cons (je_tup (ja_cons je_int (ja_cons je_int ja_nil))) ja_nil))))) je_non (nomark _)) (je_one (je_cmp (jo_eq2 (hu64 hr)) (je_call tk (hr.mono (by decide)) rfl (fn_walk D) (ja_cons (je_var (pv 0)) (ja_cons (je_tup (ja_cons je_int (ja_cons je_int ja_nil))) (ja_cons (je_lst ja_nil) ja_nil)))) (je_lst (ja_cons (je_tup (ja_cons je_int (ja_cons je_int ja_nil))) ja_nil)) (nomark _))))))))))))))))))))))))))))))
theorem fn__law_courses_right (D : HD K mg) : FnG P w K mg base (GG K) 9 "_law_courses_right" f__law_courses_right := ⟨_, g__law_courses_right D, (let ⟨_, F⟩ := D.c.d.def_ 47 (d := d__law_courses_right) rfl; F.kp), fa__law_courses_right D⟩
theorem fa_forever (D : HD K mg) : FnA P w K mg base (GG K) 7 (He.ga K "forever") f_forever := by
  obtain ⟨fd, F⟩ := D.c.d.def_ 48 (d := d_forever) rfl
  refine FnA.frame ?_
  refine ⟨fd, P_forever, FunD.bindsN F fun _ _ _ _ _ _ us hl => match us, hl with | [_, _], _ => rfl, lBody_arity, fn_lt (N := N_forever) (k := 6) F S_forever fun cdv A outer s H E hr tk => ?_⟩
  exact (jb_cons (js_expr (je_call tk (hr.mono (by decide)) rfl (fn_check_state D) (ja_cons (je_var (pv 0)) (ja_cons (je_var (pv 1)) ja_nil)))) (jb_frc (jb_one (js_ret (je_call tk (hr.mono (by decide)) rfl (fn_forever_of D) (ja_cons (je_var (pv 0)) (ja_cons (je_var (pv 1)) ja_nil)))))))
theorem fn_forever (D : HD K mg) : FnG P w K mg base (GG K) 7 "forever" f_forever := ⟨_, g_forever D, (let ⟨_, F⟩ := D.c.d.def_ 48 (d := d_forever) rfl; F.kp), fa_forever D⟩
theorem fa_can_go (D : HD K mg) : FnA P w K mg base (GG K) 8 (He.ga K "can_go") f_can_go := by
  obtain ⟨fd, F⟩ := D.c.d.def_ 49 (d := d_can_go) rfl
  refine FnA.frame ?_
  refine ⟨fd, P_can_go, FunD.bindsN F fun _ _ _ _ _ _ us hl => match us, hl with | [_, _], _ => rfl, lBody_arity, fn_lt (N := N_can_go) (k := 7) F S_can_go fun cdv A outer s H E hr tk => ?_⟩
  exact (jb_one (js_ret (je_isi (ClsV.own _) (isi_Rides D) rfl (g_isinstance D) (je_call tk (hr.mono (by decide)) rfl (fn_forever D) (ja_cons (je_var (pv 0)) (ja_cons (je_var (pv 1)) ja_nil))) (pe_glob rfl (g_Rides D) rfl))))
theorem fn_can_go (D : HD K mg) : FnG P w K mg base (GG K) 8 "can_go" f_can_go := ⟨_, g_can_go D, (let ⟨_, F⟩ := D.c.d.def_ 49 (d := d_can_go) rfl; F.kp), fa_can_go D⟩
theorem fa_charges_in (D : HD K mg) : FnA P w K mg base (GG K) 2 (He.ga K "charges_in") f_charges_in := by
  obtain ⟨fd, F⟩ := D.c.d.def_ 50 (d := d_charges_in) rfl
  refine FnA.frame ?_
  refine ⟨fd, P_charges_in, FunD.bindsN F fun _ _ _ _ _ _ us hl => match us, hl with | [_, _], _ => rfl, lBody_arity, fn_lt (N := N_charges_in) (k := 1) F S_charges_in fun cdv A outer s H E hr tk => ?_⟩
  exact (jb_cons (js_set (i := 2) (S_charges_in).nd rfl (by first | exact Or.inl rfl | exact Or.inr rfl) je_dnew) (jb_frc (jb_cons (js_for (passes_of rfl) rfl (ji_range1 rfl (g_range D) (ja_cons (je_fld (a := 0) (at_ok D) (je_var (pv 0))) ja_nil)) (jg_name (i := 3) (pg_name (S_charges_in).nd rfl (by first | exact Or.inl rfl | exact Or.inr rfl))) (jb_frc (jb_cons (js_lc (own := [("charge", 5)]) (i := 4) rfl (S_charges_in).nd rfl rfl (sw_true rfl rfl rfl rfl) (ji_range1 rfl (g_range D) (ja_cons (je_op jo_add (je_fld (a := 5) (at_ok D) (je_var (pv 0))) je_int) ja_nil)) (blkOk_by (N := N_charges_in) (sc := defScope s_charges_in) (by decide +kernel)) (fun s H C cl fp => (jgc_name (i := 5) (pg_name (S_charges_in).nd rfl (by first | exact Or.inl rfl | exact Or.inr rfl)) (by decide))) (fun s H C cl fp => (jts_one (jt_cmp (jo_notIn (hu65 hr)) (je_tup (ja_cons (je_var (pv 3)) (ja_cons (je_var (pv 5)) ja_nil))) (je_fld (a := 8) (at_ok D) (je_var (pv 1))) (by with_unfolding_all rfl)))) (fun s H C cl fp => (je_var (pv 5)))) (jb_frc (jb_one (js_asg (je_if (jt_cmp (jo_ne2 (hu64 hr)) (je_var (pv 4)) (je_lst ja_nil) (nomark _)) (je_sub (hu64 hr) (je_var (pv 4)) je_int (by intro _ _; rfl)) je_non) (jg_sub (W := W0) (hu64 hr) (je_var (pv 2)) (je_var (pv 3))))))))) (jb_frc (jb_one (js_ret (je_var (pv 2))))))))
theorem fn_charges_in (D : HD K mg) : FnG P w K mg base (GG K) 2 "charges_in" f_charges_in := ⟨_, g_charges_in D, (let ⟨_, F⟩ := D.c.d.def_ 50 (d := d_charges_in) rfl; F.kp), fa_charges_in D⟩
theorem fa_least_charges (D : HD K mg) : FnA P w K mg base (GG K) 6 (He.ga K "least_charges") f_least_charges := by
  obtain ⟨fd, F⟩ := D.c.d.def_ 51 (d := d_least_charges) rfl
  refine FnA.frame ?_
  refine ⟨fd, P_least_charges, FunD.bindsN F fun _ _ _ _ _ _ us hl => match us, hl with | [_], _ => rfl, lBody_arity, fn_lt (N := N_least_charges) (k := 5) F S_least_charges fun cdv A outer s H E hr tk => ?_⟩
  exact (jb_cons (js_expr (je_call tk (hr.mono (by decide)) rfl (fn_check_town D) (ja_cons (je_var (pv 0)) ja_nil))) (jb_frc (jb_one (js_ret (je_call tk (hr.mono (by decide)) rfl (fn_charges_in D) (ja_cons (je_var (pv 0)) (ja_cons (je_make tk (hr.mono (by decide)) rfl (mk_Game D) (ja_cons (je_var (pv 0)) ja_nil)) ja_nil)))))))
theorem fn_least_charges (D : HD K mg) : FnG P w K mg base (GG K) 6 "least_charges" f_least_charges := ⟨_, g_least_charges D, (let ⟨_, F⟩ := D.c.d.def_ 51 (d := d_least_charges) rfl; F.kp), fa_least_charges D⟩
theorem fa_Needs___init__ (D : HD K mg) : FnA P w K mg base (GG K) 2 (He.ma K (He.ga K "Needs") "__init__") f_Needs___init__ := by
  obtain ⟨fd, F⟩ := D.c.d.def_ 52 (d := d_Needs___init__) rfl
  refine FnA.frame ?_
  refine ⟨fd, P_Needs___init__, FunD.bindsN F fun _ _ _ _ _ _ us hl => match us, hl with | [_, _, _, _, _], _ => rfl, lBody_arity, fn_lt (N := N_Needs___init__) (k := 1) F S_Needs___init__ fun cdv A outer s H E hr tk => ?_⟩
  exact (jb_cons (js_fld (a := 13) (at_ok D) (je_var (pv 0)) (je_dc (own := [("place", 5), ("charge", 6)]) (hu64 hr) rfl (S_Needs___init__).nd (ji_items (je_var (pv 1))) (blkOk_by (N := N_Needs___init__) (sc := defScope s_Needs___init__) (by decide +kernel)) (fun s H C cl fp => (jgc_tup rfl (jgcs_cons (jgc_name (i := 5) (pg_name (S_Needs___init__).nd rfl (by first | exact Or.inl rfl | exact Or.inr rfl)) (by decide)) (jgcs_cons (jgc_name (i := 6) (pg_name (S_Needs___init__).nd rfl (by first | exact Or.inl rfl | exact Or.inr rfl)) (by decide)) jgcs_nil)))) (fun s H C cl fp => jts_nil) (fun s H C cl fp => (je_var (pv 5))) (fun s H C cl fp => (je_var (pv 6))))) (jb_frc (jb_cons (js_fld (a := 6) (at_ok D) (je_var (pv 0)) (je_callTy (jc_list rfl) rfl (g_list D) bt_list (ja_cons (je_var (pv 2)) ja_nil))) (jb_frc (jb_cons (js_fld (a := 7) (at_ok D) (je_var (pv 0)) (je_dc (own := [("pair", 7), ("course", 8)]) (hu64 hr) rfl (S_Needs___init__).nd (ji_items (je_var (pv 3))) (blkOk_by (N := N_Needs___init__) (sc := defScope s_Needs___init__) (by decide +kernel)) (fun s H C cl fp => (jgc_tup rfl (jgcs_cons (jgc_name (i := 7) (pg_name (S_Needs___init__).nd rfl (by first | exact Or.inl rfl | exact Or.inr rfl)) (by decide)) (jgcs_cons (jgc_name (i := 8) (pg_name (S_Needs___init__).nd rfl (by first | exact Or.inl rfl | exact Or.inr rfl)) (by decide)) jgcs_nil)))) (fun s H C cl fp => jts_nil) (fun s H C cl fp => (je_var (pv 7))) (fun s H C cl fp => (je_var (pv 8))))) (jb_frc (jb_one (js_fld (a := 8) (at_ok D) (je_var (pv 0)) (je_dc (own := [("state", 9), ("row", 10)]) (hu64 hr) rfl (S_Needs___init__).nd (ji_items (je_var (pv 4))) (blkOk_by (N := N_Needs___init__) (sc := defScope s_Needs___init__) (by decide +kernel)) (fun s H C cl fp => (jgc_tup rfl (jgcs_cons (jgc_name (i := 9) (pg_name (S_Needs___init__).nd rfl (by first | exact Or.inl rfl | exact Or.inr rfl)) (by decide)) (jgcs_cons (jgc_name (i := 10) (pg_name (S_Needs___init__).nd rfl (by first | exact Or.inl rfl | exact Or.inr rfl)) (by decide)) jgcs_nil)))) (fun s H C cl fp => jts_nil) (fun s H C cl fp => (je_var (pv 9))) (fun s H C cl fp => (je_var (pv 10))))))))))))
theorem mk_Needs (D : HD K mg) : MkOk P w K mg base (GG K) 2 "Needs" 5 f_Needs___init__ := ⟨g_Needs D, _, He.mkr_ok (D.c.d.fact 116 rfl), fa_Needs___init__ D⟩
theorem fa_needs (D : HD K mg) : FnA P w K mg base (GG K) 6 (He.ga K "needs") f_needs := by
  obtain ⟨fd, F⟩ := D.c.d.def_ 53 (d := d_needs) rfl
  refine FnA.frame ?_
  refine ⟨fd, P_needs, FunD.bindsN F fun _ _ _ _ _ _ us hl => match us, hl with | [_], _ => rfl, lBody_arity, fn_lt (N := N_needs) (k := 5) F S_needs fun cdv A outer s H E hr tk => ?_⟩
  exact (jb_cons (js_expr (je_call tk (hr.mono (by decide)) rfl (fn_check_town D) (ja_cons (je_var (pv 0)) ja_nil))) (jb_frc (jb_cons (js_set (i := 1) (S_needs).nd rfl (by first | exact Or.inl rfl | exact Or.inr rfl) (je_make tk (hr.mono (by decide)) rfl (mk_Game D) (ja_cons (je_var (pv 0)) ja_nil))) (jb_frc (jb_cons (js_set (i := 2) (S_needs).nd rfl (by first | exact Or.inl rfl | exact Or.inr rfl) (je_call tk (hr.mono (by decide)) rfl (fn_charges_in D) (ja_cons (je_var (pv 0)) (ja_cons (je_var (pv 1)) ja_nil)))) (jb_frc (jb_cons (js_asg (je_meth (a := 20) tk (hr.mono (by decide)) (mok_safe_from_3 D) (je_var (pv 1)) (ja_cons (je_lc (own := [("place", 5), ("charge", 6)]) rfl (S_needs).nd (ji_items (je_var (pv 2))) (blkOk_by (N := N_needs) (sc := defScope s_needs) (by decide +kernel)) (fun s H C cl fp => (jgc_tup rfl (jgcs_cons (jgc_name (i := 5) (pg_name (S_needs).nd rfl (by first | exact Or.inl rfl | exact Or.inr rfl)) (by decide)) (jgcs_cons (jgc_name (i := 6) (pg_name (S_needs).nd rfl (by first | exact Or.inl rfl | exact Or.inr rfl)) (by decide)) jgcs_nil)))) (fun s H C cl fp => (jts_one (jt_cmp jo_isnot2 (je_var (pv 6)) je_non (nomark _)))) (fun s H C cl fp => (je_tup (ja_cons (je_var (pv 5)) (ja_cons (je_var (pv 6)) ja_nil))))) ja_nil)) (jg_tup rfl (jgs_cons (jg_name (i := 3) (pg_name (S_needs).nd rfl (by first | exact Or.inl rfl | exact Or.inr rfl))) (jgs_cons (jg_name (i := 4) (pg_name (S_needs).nd rfl (by first | exact Or.inl rfl | exact Or.inr rfl))) jgs_nil)))) (jb_frc (jb_one (js_ret (je_make tk (hr.mono (by decide)) rfl (mk_Needs D) (ja_cons (je_var (pv 2)) (ja_cons (je_var (pv 3)) (ja_cons (je_var (pv 4)) (ja_cons (je_fld (a := 8) (at_ok D) (je_var (pv 1))) ja_nil)))))))))))))))
theorem fn_needs (D : HD K mg) : FnG P w K mg base (GG K) 6 "needs" f_needs := ⟨_, g_needs D, (let ⟨_, F⟩ := D.c.d.def_ 53 (d := d_needs) rfl; F.kp), fa_needs D⟩
theorem fa_Needs_shows (D : HD K mg) : FnA P w K mg base (GG K) 8 (He.ma K (He.ga K "Needs") "shows") f_Needs_shows := by
  obtain ⟨fd, F⟩ := D.c.d.def_ 54 (d := d_Needs_shows) rfl
  refine FnA.frame ?_
  refine ⟨fd, P_Needs_shows, FunD.bindsN F fun _ _ _ _ _ _ us hl => match us, hl with | [_, _], _ => rfl, lBody_arity, fn_lt (N := N_Needs_shows) (k := 7) F S_Needs_shows fun cdv A outer s H E hr tk => ?_⟩
  exact (jb_cons (js_expr (je_call tk (hr.mono (by decide)) rfl (fn_check_town D) (ja_cons (je_var (pv 1)) ja_nil))) (jb_frc (jb_cons (js_for (passes_of rfl) rfl (ji_items (je_fld (a := 13) (at_ok D) (je_var (pv 0)))) (jg_tup rfl (jgs_cons (jg_name (i := 2) (pg_name (S_Needs_shows).nd rfl (by first | exact Or.inl rfl | exact Or.inr rfl))) (jgs_cons (jg_name (i := 3) (pg_name (S_Needs_shows).nd rfl (by first | exact Or.inl rfl | exact Or.inr rfl))) jgs_nil))) (jb_frc (jb_cons (js_if (jt_w (jw_and (jt_cmp jo_isnot2 (je_var (pv 3)) je_non (nomark _)) (jw_and1 (jt_cmp (jo_notIn (hu65 hr)) (je_tup (ja_cons (je_var (pv 2)) (ja_cons (je_var (pv 3)) ja_nil))) (je_fld (a := 6) (at_ok D) (je_var (pv 0))) (by with_unfolding_all rfl))))) (jb_one (js_ret je_bl)) jb_nil) (jb_frc (jb_cons (js_set (i := 4) (S_Needs_shows).nd rfl (by first | exact Or.inl rfl | exact Or.inr rfl) (je_if (jt_cmp jo_is2 (je_var (pv 3)) je_non (nomark _)) (je_fld (a := 5) (at_ok D) (je_var (pv 1))) (je_op jo_sub (je_var (pv 3)) je_int))) (jb_frc (jb_one (js_if (jt_w (jw_and (jt_cmp jo_ge (je_var (pv 4)) je_int (nomark _)) (jw_and1 (jt_cmp (jo_notIn (hu65 hr)) (je_tup (ja_cons (je_var (pv 2)) (ja_cons (je_var (pv 4)) ja_nil))) (je_fld (a := 8) (at_ok D) (je_var (pv 0))) (by with_unfolding_all rfl))))) (jb_one (js_ret je_bl)) jb_nil)))))))) (jb_frc (jb_one (js_ret (je_and (je_call tk (hr.mono (by decide)) rfl (fn_are_closed D) (ja_cons (je_var (pv 1)) (ja_cons (je_fld (a := 6) (at_ok D) (je_var (pv 0))) (ja_cons (je_fld (a := 7) (at_ok D) (je_var (pv 0))) ja_nil)))) (je_one (je_call tk (hr.mono (by decide)) rfl (fn_is_plan D) (ja_cons (je_var (pv 1)) (ja_cons (je_fld (a := 8) (at_ok D) (je_var (pv 0))) ja_nil)))))))))))
theorem mok_shows_5 (D : HD K mg) : MtOk P w K mg base (GG K) 8 "shows" mt_shows_5 := by
  intro c f h
  unfold mt_shows_5 at h
  split at h
  · cases h; exact ⟨cl_Needs D, _, He.meth_ok (D.c.d.fact 113 rfl), (fa_Needs_shows D).mono (by decide)⟩
  · cases h
theorem fa_Town_orders (D : HD K mg) : FnA P w K mg base (GG K) 2 (prA K "Town" "orders") f_Town_orders := by
  obtain ⟨fd, F⟩ := D.c.gd 0 (g := d_Town_orders) rfl
  refine FnA.frame ?_
  refine ⟨fd, P_Town_orders, FunD.bindsN F fun _ _ _ _ _ _ us hl => match us, hl with | [_], _ => rfl, lBody_arity, fn_lt (N := N_Town_orders) (k := 1) F S_Town_orders fun cdv A outer s H E hr tk => ?_⟩
  exact (jb_one (js_ret (je_fld (a := 3) (at_ok D) (je_var (pv 0)))))
theorem pok_orders (D : HD K mg) : PrOk P w K mg base (GG K) 2 "orders" pt_orders := by
  intro c f h
  unfold pt_orders at h
  split at h
  · cases h; exact ⟨cl_Town D, _, _, obPr_ok (D.c.ob 85 rfl), (fa_Town_orders D).mono (by decide)⟩
  · cases h
theorem fa__law_forever_right (D : HD K mg) : FnA P w K mg base (GG K) 11 (He.ga K "_law_forever_right") f__law_forever_right := by
  obtain ⟨fd, F⟩ := D.c.d.def_ 55 (d := d__law_forever_right) rfl
  refine FnA.frame (FnA.memo tok__law_forever_right ?_)
  refine FnA.frame ?_
  refine ⟨fd, P__law_forever_right, FunD.bindsN F fun _ _ _ _ _ _ us hl => match us, hl with | [_, _], _ => rfl, lBody_arity, fn_lt (N := N__law_forever_right) (k := 10) F S__law_forever_right fun cdv A outer s H E hr tk => ?_⟩
  exact (jb_cons (js_if (jt_w (jw_or (jt_cmp (jo_ne2 (hu64 hr)) (je_itL rfl rfl (g_list D) (je_call tk (hr.mono (by decide)) rfl (fn_least_charges D) (ja_cons (je_var (pv 0)) ja_nil))) (je_lst (ja_cons (je_tup (ja_cons je_int (ja_cons je_int ja_nil))) (ja_cons (je_tup (ja_cons je_int (ja_cons je_int ja_nil))) ja_nil))) (nomark _)) (jw_or1 (jt_cmp jo_isnot2 (je_meth (a := 18) tk (hr.mono (by decide)) (mok_shows_5 D) (je_call tk (hr.mono (by decide)) rfl (fn_needs D) (ja_cons (je_var (pv 0)) ja_nil)) (ja_cons (je_var (pv 0)) ja_nil)) je_bl (nomark _))))) (jb_one (js_ret je_bl)) jb_nil) (jb_frc (jb_cons (js_if (jt_cmp (jo_ne2 (hu64 hr)) (je_itL rfl rfl (g_list D) (je_call tk (hr.mono (by decide)) rfl (fn_least_charges D) (ja_cons (je_var (pv 1)) ja_nil))) (je_lst (ja_cons (je_tup (ja_cons je_int (ja_cons je_non ja_nil))) (ja_cons (je_tup (ja_cons je_int (ja_cons je_non ja_nil))) ja_nil))) (nomark _)) (jb_one (js_ret je_bl)) jb_nil) (jb_frc (jb_cons (js_if (jt_cmp jo_isnot2 (je_call tk (hr.mono (by decide)) rfl (fn_least_battery D) (ja_cons (je_var (pv 1)) (ja_cons je_int ja_nil))) je_non (nomark _)) (jb_one (js_ret je_bl)) jb_nil) (jb_frc (jb_cons (js_if (jt_cmp (jo_ne2 (hu64 hr)) (je_call tk (hr.mono (by decide)) rfl (fn_least_battery D) (ja_cons (je_var (pv 0)) (ja_cons je_int ja_nil))) je_int (nomark _)) (jb_one (js_ret je_bl)) jb_nil) (jb_frc (jb_cons (js_if (jt_cmp (jo_ne2 (hu64 hr)) (je_call tk (hr.mono (by decide)) rfl (fn_least_battery D) (ja_cons (je_var (pv 0)) (ja_cons je_int ja_nil))) je_int (nomark _)) (jb_one (js_ret je_bl)) jb_nil) (jb_frc (jb_cons (js_if (jt_cmp jo_isnot2 (je_meth (a := 18) tk (hr.mono (by decide)) (mok_shows_1_2_4_6 D) (je_call tk (hr.mono (by decide)) rfl (fn_battery D) (ja_cons (je_var (pv 0)) (ja_cons je_int ja_nil))) (ja_cons (je_var (pv 0)) (ja_cons je_int ja_nil))) je_bl (nomark _)) (jb_one (js_ret je_bl)) jb_nil) (jb_frc (jb_cons (js_asg (je_tup (ja_cons (je_tup (ja_cons je_int (ja_cons je_int ja_nil))) (ja_cons (je_tup (ja_cons (je_tup (ja_cons (je_strE hs_1) (ja_cons je_int ja_nil))) (ja_cons (je_tup (ja_cons (je_strE hs_1) (ja_cons je_int ja_nil))) (ja_cons (je_tup (ja_cons (je_strE hs_0) ja_nil)) (ja_cons (je_tup (ja_cons (je_strE hs_0) ja_nil)) ja_nil))))) ja_nil))) (jg_tup rfl (jgs_cons (jg_name (i := 4) (pg_name (S__law_forever_right).nd rfl (by first | exact Or.inl rfl | exact Or.inr rfl))) (jgs_cons (jg_name (i := 5) (pg_name (S__law_forever_right).nd rfl (by first | exact Or.inl rfl | exact Or.inr rfl))) jgs_nil)))) (jb_frc (jb_cons (js_set (i := 2) (S__law_forever_right).nd rfl (by first | exact Or.inl rfl | exact Or.inr rfl) (je_callTy (jc_dict rfl (hu70 hr)) rfl (g_dict D) bt_dict (ja_cons (je_lc (own := [("_law_order", 6)]) rfl (S__law_forever_right).nd (ji_val (je_prop (hr.mono (by decide)) (pok_orders D) (je_var (pv 0)))) (blkOk_by (N := N__law_forever_right) (sc := defScope s__law_forever_right) (by decide +kernel)) (fun s H C cl fp => (jgc_name (i := 6) (pg_name (S__law_forever_right).nd rfl (by first | exact Or.inl rfl | exact Or.inr rfl)) (by decide))) (fun s H C cl fp => jts_nil) (fun s H C cl fp => (je_tup (ja_cons (je_tup (ja_cons (je_var (pv 4)) (ja_cons (je_var (pv 6)) ja_nil))) (ja_cons (je_var (pv 5)) ja_nil))))) ja_nil))) (jb_frc (jb_cons (js_if (jt_cmp jo_isnot2 (je_meth (a := 18) tk (hr.mono (by decide)) (mok_shows_1_2_4_6 D) (je_make tk (hr.mono (by decide)) rfl (mk_Rides D) (ja_cons (je_lst (ja_cons (je_var (pv 4)) ja_nil)) (ja_cons (je_var (pv 2)) ja_nil))) (ja_cons (je_var (pv 0)) (ja_cons (je_var (pv 4)) ja_nil))) je_bl (nomark _)) (jb_one (js_ret je_bl)) jb_nil) (jb_frc (jb_cons (js_if (jt_val (je_meth (a := 18) tk (hr.mono (by decide)) (mok_shows_1_2_4_6 D) (je_make tk (hr.mono (by decide)) rfl (mk_Rides D) (ja_cons (je_lst (ja_cons (je_var (pv 4)) ja_nil)) (ja_cons (je_var (pv 2)) ja_nil))) (ja_cons (je_var (pv 0)) (ja_cons (je_tup (ja_cons je_int (ja_cons je_int ja_nil))) ja_nil)))) (jb_one (js_ret je_bl)) jb_nil) (jb_frc (jb_cons (js_if (jt_val (je_meth (a := 18) tk (hr.mono (by decide)) (mok_shows_1_2_4_6 D) (je_make tk (hr.mono (by decide)) rfl (mk_Rides D) (ja_cons (je_lst (ja_cons (je_var (pv 4)) ja_nil)) (ja_cons (je_var (pv 2)) ja_nil))) (ja_cons (je_var (pv 1)) (ja_cons (je_var (pv 4)) ja_nil)))) (jb_one (js_ret je_bl)) jb_nil) (jb_frc (jb_cons (js_if (jt_val (je_meth (a := 18) tk (hr.mono (by decide)) (mok_shows_1_2_4_6 D) (je_make tk (hr.mono (by decide)) rfl (mk_Rides D) (ja_cons (je_lst (ja_cons (je_var (pv 4)) ja_nil)) (ja_cons (je_callTy (jc_dict rfl (hu70 hr)) rfl (g_dict D) bt_dict (ja_cons (je_lst (ja_cons (je_tup (ja_cons (je_tup (ja_cons (je_var (pv 4)) (ja_cons (je_tup (ja_cons je_int (ja_cons je_int ja_nil))) ja_nil))) (ja_cons (je_var (pv 5)) ja_nil))) ja_nil)) ja_nil)) ja_nil))) (ja_cons (je_var (pv 0)) (ja_cons (je_var (pv 4)) ja_nil)))) (jb_one (js_ret je_bl)) jb_nil) (jb_frc (jb_cons (js_if (jt_val (je_call tk (hr.mono (by decide)) rfl (fn_can_go D) (ja_cons (je_var (pv 0)) (ja_cons (je_tup (ja_cons je_int (ja_cons je_int ja_nil))) ja_nil)))) (jb_one (js_ret je_bl)) jb_nil) (jb_frc (jb_cons (js_if (jt_not (jt_val (je_call tk (hr.mono (by decide)) rfl (fn_can_go D) (ja_cons (je_var (pv 0)) (ja_cons (je_tup (ja_cons je_int (ja_cons je_int ja_nil))) ja_nil))))) (jb_one (js_ret je_bl)) jb_nil) (jb_frc (jb_cons (js_if (jt_not (jt_val (je_call tk (hr.mono (by decide)) rfl (fn_can_go D) (ja_cons (je_var (pv 0)) (ja_cons (je_tup (ja_cons je_int (ja_cons je_int ja_nil))) ja_nil))))) (jb_one (js_ret je_bl)) jb_nil) (jb_frc (jb_cons (js_if (jt_val (je_call tk (hr.mono (by decide)) rfl (fn_can_go D) (ja_cons (je_var (pv 1)) (ja_cons (je_tup (ja_cons je_int (ja_cons je_int ja_nil))) ja_nil)))) (jb_one (js_ret je_bl)) jb_nil) (jb_frc (jb_cons (js_set (i := 3) (S__law_forever_right).nd rfl (by first | exact Or.inl rfl | exact Or.inr rfl) (je_callTy (jc_dict rfl (hu70 hr)) rfl (g_dict D) bt_dict (ja_cons (je_lst (ja_cons (je_tup (ja_cons (je_tup (ja_cons je_int (ja_cons je_int ja_nil))) (ja_cons (je_tup (ja_cons je_int (ja_cons (je_tup (ja_cons je_int (ja_cons je_int ja_nil))) ja_nil))) ja_nil))) (ja_cons (je_tup (ja_cons (je_tup (ja_cons je_int (ja_cons je_int ja_nil))) (ja_cons (je_tup (ja_cons je_int (ja_cons (je_tup (ja_cons je_int (ja_cons je_int ja_nil))) ja_nil))) ja_nil))) ja_nil))) ja_nil))) (jb_frc (jb_cons (js_if (jt_cmp jo_isnot2 (je_meth (a := 18) tk (hr.mono (by decide)) (mok_shows_1_2_4_6 D) (je_make tk (hr.mono (by decide)) rfl (mk_Stalls D) (ja_cons (je_var (pv 3)) ja_nil)) (ja_cons (je_var (pv 1)) (ja_cons (je_tup (ja_cons je_int (ja_cons je_int ja_nil))) ja_nil))) je_bl (nomark _)) (jb_one (js_ret je_bl)) jb_nil) (jb_frc (jb_cons (js_if (jt_cmp jo_isnot2 (je_meth (a := 18) tk (hr.mono (by decide)) (mok_shows_1_2_4_6 D) (je_make tk (hr.mono (by decide)) rfl (mk_Stalls D) (ja_cons (je_var (pv 3)) ja_nil)) (ja_cons (je_var (pv 1)) (ja_cons (je_tup (ja_cons je_int (ja_cons je_int ja_nil))) ja_nil))) je_bl (nomark _)) (jb_one (js_ret je_bl)) jb_nil) (jb_frc (jb_cons (js_if (jt_val (je_meth (a := 18) tk (hr.mono (by decide)) (mok_shows_1_2_4_6 D) (je_make tk (hr.mono (by decide)) rfl (mk_Stalls D) (ja_cons (je_var (pv 3)) ja_nil)) (ja_cons (je_var (pv 1)) (ja_cons (je_tup (ja_cons je_int (ja_cons je_int ja_nil))) ja_nil)))) (jb_one (js_ret je_bl)) jb_nil) (jb_frc (jb_one (js_ret (je_not (je_meth (a := 18) tk (hr.mono (by decide)) (mok_shows_1_2_4_6 D) (je_make tk (hr.mono (by decide)) rfl (mk_Stalls D) (ja_cons (je_callTy (jc_dict rfl (hu70 hr)) rfl (g_dict D) bt_dict (ja_cons (je_lst (ja_cons (je_tup (ja_cons (je_tup (ja_cons je_int (ja_cons je_int ja_nil))) (ja_cons (je_tup (ja_cons je_int (ja_cons (je_tup (ja_cons je_int (ja_cons je_int ja_nil))) ja_nil))) ja_nil))) ja_nil)) ja_nil)) ja_nil)) (ja_cons (je_var (pv 1)) (ja_cons (je_tup (ja_cons je_int (ja_cons je_int ja_nil))) ja_nil))))))))))))))))))))))))))))))))))))))))))))))
theorem fn__law_forever_right (D : HD K mg) : FnG P w K mg base (GG K) 11 "_law_forever_right" f__law_forever_right := ⟨_, g__law_forever_right D, (let ⟨_, F⟩ := D.c.d.def_ 55 (d := d__law_forever_right) rfl; F.kp), fa__law_forever_right D⟩
theorem fa_best_end (D : HD K mg) : FnA P w K mg base (GG K) 2 (He.ga K "best_end") f_best_end := by
  obtain ⟨fd, F⟩ := D.c.d.def_ 56 (d := d_best_end) rfl
  refine FnA.frame ?_
  refine ⟨fd, P_best_end, FunD.bindsN F fun _ _ _ _ _ _ us hl => match us, hl with | [_, _], _ => rfl, lBody_arity, fn_lt (N := N_best_end) (k := 1) F S_best_end fun cdv A outer s H E hr tk => ?_⟩
  exact (jb_cons (js_lc (own := [("end", 4)]) (i := 2) rfl (S_best_end).nd rfl rfl (sw_true rfl rfl rfl rfl) (ji_val (je_var (pv 1))) (blkOk_by (N := N_best_end) (sc := defScope s_best_end) (by decide +kernel)) (fun s H C cl fp => (jgc_name (i := 4) (pg_name (S_best_end).nd rfl (by first | exact Or.inl rfl | exact Or.inr rfl)) (by decide))) (fun s H C cl fp => (jts_one (jt_cmp (jo_notIn (hu65 hr)) (je_var (pv 4)) (je_fld (a := 8) (at_ok D) (je_var (pv 0))) (by with_unfolding_all rfl)))) (fun s H C cl fp => (je_var (pv 4)))) (jb_frc (jb_cons (js_if (jt_cmp (jo_ne2 (hu64 hr)) (je_var (pv 2)) (je_lst ja_nil) (nomark _)) (jb_one (js_ret (je_sub (hu64 hr) (je_var (pv 2)) je_int (by intro _ _; rfl)))) jb_nil) (jb_frc (jb_cons (js_set (i := 3) (S_best_end).nd rfl (by first | exact Or.inl rfl | exact Or.inr rfl) (je_callB (jc_max rfl) rfl (g_max D) bt_max (ja_cons (je_lc (own := [("end", 4)]) rfl (S_best_end).nd (ji_val (je_var (pv 1))) (blkOk_by (N := N_best_end) (sc := defScope s_best_end) (by decide +kernel)) (fun s H C cl fp => (jgc_name (i := 4) (pg_name (S_best_end).nd rfl (by first | exact Or.inl rfl | exact Or.inr rfl)) (by decide))) (fun s H C cl fp => jts_nil) (fun s H C cl fp => (je_sub (hu64 hr) (je_sub (hu64 hr) (je_fld (a := 8) (at_ok D) (je_var (pv 0))) (je_var (pv 4)) (by intro _ _; rfl)) je_int (by intro _ _; rfl)))) ja_nil))) (jb_frc (jb_one (js_ret (je_sub (hu64 hr) (je_lc (own := [("end", 4)]) rfl (S_best_end).nd (ji_val (je_var (pv 1))) (blkOk_by (N := N_best_end) (sc := defScope s_best_end) (by decide +kernel)) (fun s H C cl fp => (jgc_name (i := 4) (pg_name (S_best_end).nd rfl (by first | exact Or.inl rfl | exact Or.inr rfl)) (by decide))) (fun s H C cl fp => (jts_one (jt_cmp (jo_eq2 (hu64 hr)) (je_sub (hu64 hr) (je_sub (hu64 hr) (je_fld (a := 8) (at_ok D) (je_var (pv 0))) (je_var (pv 4)) (by intro _ _; rfl)) je_int (by intro _ _; rfl)) (je_var (pv 3)) (nomark _)))) (fun s H C cl fp => (je_var (pv 4)))) je_int (by intro _ _; rfl))))))))))
theorem fn_best_end (D : HD K mg) : FnG P w K mg base (GG K) 2 "best_end" f_best_end := ⟨_, g_best_end D, (let ⟨_, F⟩ := D.c.d.def_ 56 (d := d_best_end) rfl; F.kp), fa_best_end D⟩
theorem fa_Soon___init__ (D : HD K mg) : FnA P w K mg base (GG K) 2 (He.ma K (He.ga K "Soon") "__init__") f_Soon___init__ := by
  obtain ⟨fd, F⟩ := D.c.d.def_ 57 (d := d_Soon___init__) rfl
  refine FnA.frame ?_
  refine ⟨fd, P_Soon___init__, FunD.bindsN F fun _ _ _ _ _ _ us hl => match us, hl with | [_, _, _, _, _], _ => rfl, lBody_arity, fn_lt (N := N_Soon___init__) (k := 1) F S_Soon___init__ fun cdv A outer s H E hr tk => ?_⟩
  exact (jb_cons (js_fld (a := 10) (at_ok D) (je_var (pv 0)) (je_var (pv 1))) (jb_frc (jb_cons (js_fld (a := 8) (at_ok D) (je_var (pv 0)) (je_dc (own := [("state", 5), ("row", 6)]) (hu64 hr) rfl (S_Soon___init__).nd (ji_items (je_var (pv 2))) (blkOk_by (N := N_Soon___init__) (sc := defScope s_Soon___init__) (by decide +kernel)) (fun s H C cl fp => (jgc_tup rfl (jgcs_cons (jgc_name (i := 5) (pg_name (S_Soon___init__).nd rfl (by first | exact Or.inl rfl | exact Or.inr rfl)) (by decide)) (jgcs_cons (jgc_name (i := 6) (pg_name (S_Soon___init__).nd rfl (by first | exact Or.inl rfl | exact Or.inr rfl)) (by decide)) jgcs_nil)))) (fun s H C cl fp => jts_nil) (fun s H C cl fp => (je_var (pv 5))) (fun s H C cl fp => (je_var (pv 6))))) (jb_frc (jb_cons (js_fld (a := 14) (at_ok D) (je_var (pv 0)) (je_dc (own := [("state", 5), ("level", 7)]) (hu64 hr) rfl (S_Soon___init__).nd (ji_items (je_var (pv 3))) (blkOk_by (N := N_Soon___init__) (sc := defScope s_Soon___init__) (by decide +kernel)) (fun s H C cl fp => (jgc_tup rfl (jgcs_cons (jgc_name (i := 5) (pg_name (S_Soon___init__).nd rfl (by first | exact Or.inl rfl | exact Or.inr rfl)) (by decide)) (jgcs_cons (jgc_name (i := 7) (pg_name (S_Soon___init__).nd rfl (by first | exact Or.inl rfl | exact Or.inr rfl)) (by decide)) jgcs_nil)))) (fun s H C cl fp => jts_nil) (fun s H C cl fp => (je_var (pv 5))) (fun s H C cl fp => (je_var (pv 7))))) (jb_frc (jb_one (js_fld (a := 7) (at_ok D) (je_var (pv 0)) (je_dc (own := [("pair", 8), ("course", 9)]) (hu64 hr) rfl (S_Soon___init__).nd (ji_items (je_var (pv 4))) (blkOk_by (N := N_Soon___init__) (sc := defScope s_Soon___init__) (by decide +kernel)) (fun s H C cl fp => (jgc_tup rfl (jgcs_cons (jgc_name (i := 8) (pg_name (S_Soon___init__).nd rfl (by first | exact Or.inl rfl | exact Or.inr rfl)) (by decide)) (jgcs_cons (jgc_name (i := 9) (pg_name (S_Soon___init__).nd rfl (by first | exact Or.inl rfl | exact Or.inr rfl)) (by decide)) jgcs_nil)))) (fun s H C cl fp => jts_nil) (fun s H C cl fp => (je_var (pv 8))) (fun s H C cl fp => (je_var (pv 9))))))))))))
theorem mk_Soon (D : HD K mg) : MkOk P w K mg base (GG K) 2 "Soon" 6 f_Soon___init__ := ⟨g_Soon D, _, He.mkr_ok (D.c.d.fact 118 rfl), fa_Soon___init__ D⟩
theorem fa_soon (D : HD K mg) : FnA P w K mg base (GG K) 6 (He.ga K "soon") f_soon := by
  obtain ⟨fd, F⟩ := D.c.d.def_ 58 (d := d_soon) rfl
  refine FnA.frame ?_
  refine ⟨fd, P_soon, FunD.bindsN F fun _ _ _ _ _ _ us hl => match us, hl with | [_, _], _ => rfl, lBody_arity, fn_lt (N := N_soon) (k := 5) F S_soon fun cdv A outer s H E hr tk => ?_⟩
  exact (jb_cons (js_expr (je_call tk (hr.mono (by decide)) rfl (fn_check_state D) (ja_cons (je_var (pv 0)) (ja_cons (je_var (pv 1)) ja_nil)))) (jb_frc (jb_cons (js_set (i := 2) (S_soon).nd rfl (by first | exact Or.inl rfl | exact Or.inr rfl) (je_make tk (hr.mono (by decide)) rfl (mk_Game D) (ja_cons (je_var (pv 0)) ja_nil))) (jb_frc (jb_cons (js_if (jt_cmp (jo_notIn (hu65 hr)) (je_var (pv 1)) (je_fld (a := 8) (at_ok D) (je_var (pv 2))) (by with_unfolding_all rfl)) (jb_one (js_ret je_non)) jb_nil) (jb_frc (jb_cons (js_par (ps_par (i := 3) (j := 4) rfl (S_soon).nd rfl rfl (by decide) rfl rfl (ja_cons je_dnew (ja_cons je_dnew ja_nil)) (by rfl))) (jb_frc (jb_cons (js_for (passes_of rfl) rfl (ji_items (je_fld (a := 9) (at_ok D) (je_var (pv 2)))) (jg_tup rfl (jgs_cons (jg_name (i := 5) (pg_name (S_soon).nd rfl (by first | exact Or.inl rfl | exact Or.inr rfl))) (jgs_cons (jg_name (i := 6) (pg_name (S_soon).nd rfl (by first | exact Or.inl rfl | exact Or.inr rfl))) jgs_nil))) (jb_frc (jb_cons (js_asg (je_if (jt_cmp (jo_in (hu65 hr)) (je_var (pv 5)) (je_fld (a := 8) (at_ok D) (je_var (pv 2))) (by with_unfolding_all rfl)) (je_sub (hu64 hr) (je_sub (hu64 hr) (je_fld (a := 8) (at_ok D) (je_var (pv 2))) (je_var (pv 5)) (by intro _ _; rfl)) je_int (by intro _ _; rfl)) (je_sub (hu64 hr) (je_sub (hu64 hr) (je_fld (a := 8) (at_ok D) (je_var (pv 2))) (je_var (pv 1)) (by intro _ _; rfl)) je_int (by intro _ _; rfl))) (jg_sub (W := W0) (hu64 hr) (je_var (pv 3)) (je_var (pv 5)))) (jb_frc (jb_one (js_for (passes_of rfl) rfl (ji_items (je_var (pv 6))) (jg_tup rfl (jgs_cons (jg_name (i := 7) (pg_name (S_soon).nd rfl (by first | exact Or.inl rfl | exact Or.inr rfl))) (jgs_cons (jg_name (i := 8) (pg_name (S_soon).nd rfl (by first | exact Or.inl rfl | exact Or.inr rfl))) jgs_nil))) (jb_frc (jb_one (js_if (jt_cmp (jo_ne2 (hu64 hr)) (je_var (pv 8)) je_dnew (nomark _)) (jb_one (js_asg (je_sub (hu64 hr) (je_var (pv 8)) (je_call tk (hr.mono (by decide)) rfl (fn_best_end D) (ja_cons (je_var (pv 2)) (ja_cons (je_var (pv 8)) ja_nil))) (by intro _ _; rfl)) (jg_sub (W := W0) (hu64 hr) (je_var (pv 4)) (je_tup (ja_cons (je_var (pv 5)) (ja_cons (je_var (pv 7)) ja_nil)))))) jb_nil))))))))) (jb_frc (jb_one (js_ret (je_make tk (hr.mono (by decide)) rfl (mk_Soon D) (ja_cons (je_op jo_add (je_sub (hu64 hr) (je_sub (hu64 hr) (je_fld (a := 8) (at_ok D) (je_var (pv 2))) (je_var (pv 1)) (by intro _ _; rfl)) je_int (by intro _ _; rfl)) je_int) (ja_cons (je_fld (a := 8) (at_ok D) (je_var (pv 2))) (ja_cons (je_var (pv 3)) (ja_cons (je_var (pv 4)) ja_nil)))))))))))))))))
theorem fn_soon (D : HD K mg) : FnG P w K mg base (GG K) 6 "soon" f_soon := ⟨_, g_soon D, (let ⟨_, F⟩ := D.c.d.def_ 58 (d := d_soon) rfl; F.kp), fa_soon D⟩
theorem fa_soonest (D : HD K mg) : FnA P w K mg base (GG K) 7 (He.ga K "soonest") f_soonest := by
  obtain ⟨fd, F⟩ := D.c.d.def_ 59 (d := d_soonest) rfl
  refine FnA.frame ?_
  refine ⟨fd, P_soonest, FunD.bindsN F fun _ _ _ _ _ _ us hl => match us, hl with | [_, _], _ => rfl, lBody_arity, fn_lt (N := N_soonest) (k := 6) F S_soonest fun cdv A outer s H E hr tk => ?_⟩
  exact (jb_cons (js_set (i := 2) (S_soonest).nd rfl (by first | exact Or.inl rfl | exact Or.inr rfl) (je_call tk (hr.mono (by decide)) rfl (fn_soon D) (ja_cons (je_var (pv 0)) (ja_cons (je_var (pv 1)) ja_nil)))) (jb_frc (jb_one (js_ret (je_if (jt_cmp jo_is2 (je_var (pv 2)) je_non (nomark _)) je_non (je_fld (a := 10) (at_ok D) (je_var (pv 2))))))))
theorem fn_soonest (D : HD K mg) : FnG P w K mg base (GG K) 7 "soonest" f_soonest := ⟨_, g_soonest D, (let ⟨_, F⟩ := D.c.d.def_ 59 (d := d_soonest) rfl; F.kp), fa_soonest D⟩
theorem fa__law_soon_right (D : HD K mg) : FnA P w K mg base (GG K) 11 (He.ga K "_law_soon_right") f__law_soon_right := by
  obtain ⟨fd, F⟩ := D.c.d.def_ 60 (d := d__law_soon_right) rfl
  refine FnA.frame (FnA.memo tok__law_soon_right ?_)
  refine FnA.frame ?_
  refine ⟨fd, P__law_soon_right, FunD.bindsN F fun _ _ _ _ _ _ us hl => match us, hl with | [_, _], _ => rfl, lBody_arity, fn_lt (N := N__law_soon_right) (k := 10) F S__law_soon_right fun cdv A outer s H E hr tk => ?_⟩
  exact (jb_cons (js_set (i := 2) (S__law_soon_right).nd rfl (by first | exact Or.inl rfl | exact Or.inr rfl) (je_lst (ja_cons (je_tup (ja_cons (je_tup (ja_cons je_int (ja_cons je_int ja_nil))) (ja_cons je_int ja_nil))) (ja_cons (je_tup (ja_cons (je_tup (ja_cons je_int (ja_cons je_int ja_nil))) (ja_cons je_int ja_nil))) (ja_cons (je_tup (ja_cons (je_tup (ja_cons je_int (ja_cons je_int ja_nil))) (ja_cons je_int ja_nil))) (ja_cons (je_tup (ja_cons (je_tup (ja_cons je_int (ja_cons je_int ja_nil))) (ja_cons je_int ja_nil))) (ja_cons (je_tup (ja_cons (je_tup (ja_cons je_int (ja_cons je_int ja_nil))) (ja_cons je_int ja_nil))) ja_nil))))))) (jb_frc (jb_cons (js_for (passes_of rfl) rfl (ji_val (je_var (pv 2))) (jg_tup rfl (jgs_cons (jg_name (i := 3) (pg_name (S__law_soon_right).nd rfl (by first | exact Or.inl rfl | exact Or.inr rfl))) (jgs_cons (jg_name (i := 4) (pg_name (S__law_soon_right).nd rfl (by first | exact Or.inl rfl | exact Or.inr rfl))) jgs_nil))) (jb_frc (jb_one (js_if (jt_w (jw_or (jt_cmp (jo_ne2 (hu64 hr)) (je_call tk (hr.mono (by decide)) rfl (fn_soonest D) (ja_cons (je_var (pv 1)) (ja_cons (je_var (pv 3)) ja_nil))) (je_var (pv 4)) (nomark _)) (jw_or1 (jt_cmp jo_isnot2 (je_meth (a := 18) tk (hr.mono (by decide)) (mok_shows_1_2_4_6 D) (je_call tk (hr.mono (by decide)) rfl (fn_soon D) (ja_cons (je_var (pv 1)) (ja_cons (je_var (pv 3)) ja_nil))) (ja_cons (je_var (pv 1)) (ja_cons (je_var (pv 3)) ja_nil))) je_bl (nomark _))))) (jb_one (js_ret je_bl)) jb_nil)))) (jb_frc (jb_cons (js_if (jt_w (jw_or (jt_cmp jo_isnot2 (je_call tk (hr.mono (by decide)) rfl (fn_soon D) (ja_cons (je_var (pv 0)) (ja_cons (je_tup (ja_cons je_int (ja_cons je_int ja_nil))) ja_nil))) je_non (nomark _)) (jw_or1 (jt_cmp (jo_ne2 (hu64 hr)) (je_call tk (hr.mono (by decide)) rfl (fn_soonest D) (ja_cons (je_var (pv 0)) (ja_cons (je_tup (ja_cons je_int (ja_cons je_int ja_nil))) ja_nil))) je_int (nomark _))))) (jb_one (js_ret je_bl)) jb_nil) (jb_frc (jb_cons (js_par (ps_par (i := 5) (j := 6) rfl (S__law_soon_right).nd rfl rfl (by decide) rfl rfl (ja_cons (je_callTy (jc_dict rfl (hu70 hr)) rfl (g_dict D) bt_dict (ja_cons (je_lst (ja_cons (je_tup (ja_cons (je_tup (ja_cons je_int (ja_cons je_int ja_nil))) (ja_cons (je_tup (ja_cons je_int (ja_cons (je_tup (ja_cons je_int (ja_cons je_int ja_nil))) ja_nil))) ja_nil))) ja_nil)) ja_nil)) (ja_cons (je_callTy (jc_dict rfl (hu70 hr)) rfl (g_dict D) bt_dict (ja_cons (je_lst (ja_cons (je_tup (ja_cons (je_tup (ja_cons je_int (ja_cons je_int ja_nil))) (ja_cons je_int ja_nil))) ja_nil)) ja_nil)) ja_nil)) (by rfl))) (jb_frc (jb_cons (js_if (jt_cmp jo_isnot2 (je_meth (a := 18) tk (hr.mono (by decide)) (mok_shows_1_2_4_6 D) (je_make tk (hr.mono (by decide)) rfl (mk_Soon D) (ja_cons je_int (ja_cons (je_var (pv 5)) (ja_cons (je_var (pv 6)) (ja_cons je_dnew ja_nil))))) (ja_cons (je_var (pv 1)) (ja_cons (je_tup (ja_cons je_int (ja_cons je_int ja_nil))) ja_nil))) je_bl (nomark _)) (jb_one (js_ret je_bl)) jb_nil) (jb_frc (jb_cons (js_if (jt_val (je_meth (a := 18) tk (hr.mono (by decide)) (mok_shows_1_2_4_6 D) (je_make tk (hr.mono (by decide)) rfl (mk_Soon D) (ja_cons je_int (ja_cons (je_var (pv 5)) (ja_cons je_dnew (ja_cons je_dnew ja_nil))))) (ja_cons (je_var (pv 1)) (ja_cons (je_tup (ja_cons je_int (ja_cons je_int ja_nil))) ja_nil)))) (jb_one (js_ret je_bl)) jb_nil) (jb_frc (jb_cons (js_if (jt_val (je_meth (a := 18) tk (hr.mono (by decide)) (mok_shows_1_2_4_6 D) (je_make tk (hr.mono (by decide)) rfl (mk_Soon D) (ja_cons je_int (ja_cons (je_var (pv 5)) (ja_cons (je_var (pv 6)) (ja_cons je_dnew ja_nil))))) (ja_cons (je_var (pv 1)) (ja_cons (je_tup (ja_cons je_int (ja_cons je_int ja_nil))) ja_nil)))) (jb_one (js_ret je_bl)) jb_nil) (jb_frc (jb_cons (js_if (jt_val (je_meth (a := 18) tk (hr.mono (by decide)) (mok_shows_1_2_4_6 D) (je_make tk (hr.mono (by decide)) rfl (mk_Soon D) (ja_cons je_int (ja_cons (je_var (pv 5)) (ja_cons (je_var (pv 6)) (ja_cons je_dnew ja_nil))))) (ja_cons (je_var (pv 1)) (ja_cons (je_tup (ja_cons je_int (ja_cons je_int ja_nil))) ja_nil)))) (jb_one (js_ret je_bl)) jb_nil) (jb_frc (jb_one (js_ret (je_and (je_isi (ClsV.own _) (isi_Stalls D) rfl (g_isinstance D) (je_call tk (hr.mono (by decide)) rfl (fn_forever D) (ja_cons (je_var (pv 1)) (ja_cons (je_tup (ja_cons je_int (ja_cons je_int ja_nil))) ja_nil))) (pe_glob rfl (g_Stalls D) rfl)) (je_one (je_isi (ClsV.own _) (isi_Rides D) rfl (g_isinstance D) (je_call tk (hr.mono (by decide)) rfl (fn_forever D) (ja_cons (je_var (pv 0)) (ja_cons (je_tup (ja_cons je_int (ja_cons je_int ja_nil))) ja_nil))) (pe_glob rfl (g_Rides D) rfl))))))))))))))))))))))
theorem fn__law_soon_right (D : HD K mg) : FnG P w K mg base (GG K) 11 "_law_soon_right" f__law_soon_right := ⟨_, g__law_soon_right D, (let ⟨_, F⟩ := D.c.d.def_ 60 (d := d__law_soon_right) rfl; F.kp), fa__law_soon_right D⟩
theorem fa__law_towns (D : HD K mg) : FnA P w K mg base (GG K) 6 (He.ga K "_law_towns") f__law_towns := by
  obtain ⟨fd, F⟩ := D.c.d.def_ 61 (d := d__law_towns) rfl
  refine FnA.frame ?_
  refine ⟨fd, P__law_towns, FunD.bindsN F fun _ _ _ _ _ _ us hl => match us, hl with | [], _ => rfl, lBody_arity, fn_lt (N := N__law_towns) (k := 5) F S__law_towns fun cdv A outer s H E hr tk => ?_⟩
  exact (jb_cons (js_asg (je_tup (ja_cons (je_tup (ja_cons (je_tup (ja_cons je_int (ja_cons je_int (ja_cons je_int (ja_cons je_int ja_nil))))) ja_nil)) (ja_cons (je_tup (ja_cons (je_tup (ja_cons je_int (ja_cons je_int ja_nil))) (ja_cons (je_tup (ja_cons je_int (ja_cons je_int ja_nil))) ja_nil))) ja_nil))) (jg_tup rfl (jgs_cons (jg_name (i := 1) (pg_name (S__law_towns).nd rfl (by first | exact Or.inl rfl | exact Or.inr rfl))) (jgs_cons (jg_name (i := 2) (pg_name (S__law_towns).nd rfl (by first | exact Or.inl rfl | exact Or.inr rfl))) jgs_nil)))) (jb_frc (jb_cons (js_par (ps_par (i := 3) (j := 4) rfl (S__law_towns).nd rfl rfl (by decide) rfl rfl (ja_cons (je_make tk (hr.mono (by decide)) rfl (mk_Town D) (ja_cons je_int (ja_cons (je_var (pv 1)) (ja_cons (je_tup (ja_cons je_int ja_nil)) (ja_cons (je_var (pv 2)) (ja_cons je_int (ja_cons je_int ja_nil))))))) (ja_cons (je_make tk (hr.mono (by decide)) rfl (mk_Town D) (ja_cons je_int (ja_cons (je_var (pv 1)) (ja_cons (je_tup (ja_cons je_int ja_nil)) (ja_cons (je_var (pv 2)) (ja_cons je_int (ja_cons je_int ja_nil))))))) ja_nil)) (by rfl))) (jb_frc (jb_cons (js_set (i := 0) (S__law_towns).nd rfl (by first | exact Or.inl rfl | exact Or.inr rfl) (je_tup (ja_cons (je_tup (ja_cons je_int (ja_cons je_int (ja_cons je_int (ja_cons je_int ja_nil))))) (ja_cons (je_tup (ja_cons je_int (ja_cons je_int (ja_cons je_int (ja_cons je_int ja_nil))))) (ja_cons (je_tup (ja_cons je_int (ja_cons je_int (ja_cons je_int (ja_cons je_int ja_nil))))) ja_nil))))) (jb_frc (jb_one (js_ret (je_tup (ja_cons (je_var (pv 3)) (ja_cons (je_var (pv 4)) (ja_cons (je_make tk (hr.mono (by decide)) rfl (mk_Town D) (ja_cons je_int (ja_cons (je_var (pv 0)) (ja_cons (je_tup (ja_cons je_int ja_nil)) (ja_cons (je_tup (ja_cons (je_tup (ja_cons je_int (ja_cons je_int ja_nil))) (ja_cons (je_tup (ja_cons je_int (ja_cons je_int ja_nil))) ja_nil))) (ja_cons je_int (ja_cons je_int ja_nil))))))) ja_nil))))))))))))
theorem fn__law_towns (D : HD K mg) : FnG P w K mg base (GG K) 6 "_law_towns" f__law_towns := ⟨_, g__law_towns D, (let ⟨_, F⟩ := D.c.d.def_ 61 (d := d__law_towns) rfl; F.kp), fa__law_towns D⟩
theorem fa_law (D : HD K mg) : FnA P w K mg base (GG K) 12 (He.ga K "law") f_law := by
  obtain ⟨fd, F⟩ := D.c.d.def_ 62 (d := d_law) rfl
  refine ⟨fd, P_law, FunD.bindsN F fun _ _ _ _ _ _ us hl => match us, hl with | [_], _ => rfl, lBody_arity, fn_lt (N := N_law) (k := 11) F S_law fun cdv A outer s H E hr tk => ?_⟩
  exact (jb_cons (js_asg (je_call0 tk (hr.mono (by decide)) rfl (fn__law_towns D)) (jg_tup rfl (jgs_cons (jg_name (i := 1) (pg_name (S_law).nd rfl (by first | exact Or.inl rfl | exact Or.inr rfl))) (jgs_cons (jg_name (i := 2) (pg_name (S_law).nd rfl (by first | exact Or.inl rfl | exact Or.inr rfl))) (jgs_cons (jg_name (i := 3) (pg_name (S_law).nd rfl (by first | exact Or.inl rfl | exact Or.inr rfl))) jgs_nil))))) (jb_frc (jb_cons (js_if (jt_w (jw_or (jt_not (jt_val (je_call tk (hr.mono (by decide)) rfl (fn__law_courses_right D) (ja_cons (je_var (pv 1)) (ja_cons (je_var (pv 3)) ja_nil))))) (jw_or1 (jt_not (jt_val (je_call tk (hr.mono (by decide)) rfl (fn__law_forever_right D) (ja_cons (je_var (pv 1)) (ja_cons (je_var (pv 2)) ja_nil)))))))) (jb_one (js_ret je_bl)) jb_nil) (jb_frc (jb_one (js_ret (je_and (je_call tk (hr.mono (by decide)) rfl (fn__law_batteries_right D) (ja_cons (je_var (pv 2)) ja_nil)) (je_one (je_call tk (hr.mono (by decide)) rfl (fn__law_soon_right D) (ja_cons (je_var (pv 1)) (ja_cons (je_var (pv 2)) ja_nil)))))))))))
theorem fn_law (D : HD K mg) : FnG P w K mg base (GG K) 12 "law" f_law := ⟨_, g_law D, (let ⟨_, F⟩ := D.c.d.def_ 62 (d := d_law) rfl; F.kp), fa_law D⟩
end
end K06

set_option Elab.async false
set_option linter.all false
set_option autoImplicit false
set_option maxRecDepth 100000
set_option maxHeartbeats 0
namespace K06
open PySem PySem.Spec L2 LT
def nm__0 : List PySem.Str := [PySem.Str.ofString "ChargeError", PySem.Str.ofString "BadTown", PySem.Str.ofString "BadState", PySem.Str.ofString "BadOrder", PySem.Str.ofString "BadCourse", PySem.Str.ofString "BadPlace", PySem.Str.ofString "MAX_PLACES", PySem.Str.ofString "MAX_ROADS", PySem.Str.ofString "MAX_ORDERS", PySem.Str.ofString "MAX_STEP", PySem.Str.ofString "MAX_MINUTES", PySem.Str.ofString "MAX_BATTERY", PySem.Str.ofString "is_integer", PySem.Str.ofString "is_rising", PySem.Str.ofString "is_road", PySem.Str.ofString "is_pair", PySem.Str.ofString "are_rows", PySem.Str.ofString "Town", PySem.Str.ofString "check_town", PySem.Str.ofString "is_state", PySem.Str.ofString "check_state", PySem.Str.ofString "check_order", PySem.Str.ofString "check_place", PySem.Str.ofString "with_battery", PySem.Str.ofString "all_states", PySem.Str.ofString "RIDE", PySem.Str.ofString "CHARGE", PySem.Str.ofString "steps_at", PySem.Str.ofString "is_step", PySem.Str.ofString "step_at", PySem.Str.ofString "walked", PySem.Str.ofString "check_course", PySem.Str.ofString "course_of", PySem.Str.ofString "does_carry", PySem.Str.ofString "end_of", PySem.Str.ofString "walk", PySem.Str.ofString "minutes", PySem.Str.ofString "carries", PySem.Str.ofString "stage_after", PySem.Str.ofString "courses_of"]
def nm__1 : List PySem.Str := [PySem.Str.ofString "is_new", PySem.Str.ofString "ends", PySem.Str.ofString "course_to", PySem.Str.ofString "Rides", PySem.Str.ofString "are_closed", PySem.Str.ofString "Stalls", PySem.Str.ofString "is_plan", PySem.Str.ofString "Game", PySem.Str.ofString "forever_of", PySem.Str.ofString "forever", PySem.Str.ofString "can_go", PySem.Str.ofString "Battery", PySem.Str.ofString "battery", PySem.Str.ofString "least_battery", PySem.Str.ofString "Needs", PySem.Str.ofString "charges_in", PySem.Str.ofString "needs", PySem.Str.ofString "least_charges", PySem.Str.ofString "Soon", PySem.Str.ofString "soon", PySem.Str.ofString "best_end", PySem.Str.ofString "soonest", PySem.Str.ofString "_law_towns", PySem.Str.ofString "_law_courses_right", PySem.Str.ofString "_law_forever_right", PySem.Str.ofString "_law_batteries_right", PySem.Str.ofString "_law_soon_right"]
def nm_ : List PySem.Str := nm__0 ++ nm__1
abbrev R : PySem.W.OpenRow := PySem.W.OpenLaw.row PySem.Challenge.rw_lastcharge_k06_known
abbrev hk : PySem.W.Hook := hookL 5 fa_ fn_ ob_ gs_
def obsv (s : PySem.W.SharedT) : AlL := obsLG 5 fa_ fn_ ob_ gs_ (HandSHeadRun.getT s)
theorem obsv_eq (s : PySem.W.SharedT) : obsv s = hk.obs s.abs := obsLG_eq (HandSHeadRun.getT_eq s)
theorem run (w : World) : HandSHeadRun.RunEq R (PySem.W.view R.prog [75]) hk obsv 8000 nm_ w := by
  intro os
  kernel_rfl
end K06

set_option Elab.async false
set_option linter.all false
set_option autoImplicit false
set_option maxRecDepth 100000
set_option maxHeartbeats 0
namespace K06
open PySem PySem.Spec L2 LT
theorem law_ok {P : Program} {w : World} {K : PySem.W.Frag} {mg : Str → Option Value} (D : HD K mg) : ∃ fd : FuncData, (∀ (s : Shared) (v : Value), BindsTo s fd ⟨[v], []⟩ [("_law_script", v)]) ∧ ∀ base : Heap, FnOk P w K mg base (L2.CX P w) 12 (He.ga K "law") fd ["_law_script"] (FSp0 (GG K) w K 1 (lBody0 4 m_law)) := by
  obtain ⟨fd, F⟩ := D.c.d.def_ 62 (d := d_law) rfl
  have b := FunD.bindsA (ps := ["_law_script"]) F fun _ _ _ _ _ _ us hl => match us, hl with | [_], _ => rfl
  refine ⟨fd, fun s v => b s [v] rfl, fun base => fn_lt0 (N := N_law) (ps := P_law) (k := 11) F S_law (by decide) fun cdv A outer s H E hr tk => ?_⟩
  exact (jb_cons (js_asg (je_call0 tk (hr.mono (by decide)) rfl (fn__law_towns D)) (jg_tup rfl (jgs_cons (jg_name (i := 1) (pg_name (S_law).nd rfl (by first | exact Or.inl rfl | exact Or.inr rfl))) (jgs_cons (jg_name (i := 2) (pg_name (S_law).nd rfl (by first | exact Or.inl rfl | exact Or.inr rfl))) (jgs_cons (jg_name (i := 3) (pg_name (S_law).nd rfl (by first | exact Or.inl rfl | exact Or.inr rfl))) jgs_nil))))) (jb_frc (jb_cons (js_if (jt_w (jw_or (jt_not (jt_val (je_call tk (hr.mono (by decide)) rfl (fn__law_courses_right D) (ja_cons (je_var (pv 1)) (ja_cons (je_var (pv 3)) ja_nil))))) (jw_or1 (jt_not (jt_val (je_call tk (hr.mono (by decide)) rfl (fn__law_forever_right D) (ja_cons (je_var (pv 1)) (ja_cons (je_var (pv 2)) ja_nil)))))))) (jb_one (js_ret je_bl)) jb_nil) (jb_frc (jb_one (js_ret (je_and (je_call tk (hr.mono (by decide)) rfl (fn__law_batteries_right D) (ja_cons (je_var (pv 2)) ja_nil)) (je_one (je_call tk (hr.mono (by decide)) rfl (fn__law_soon_right D) (ja_cons (je_var (pv 1)) (ja_cons (je_var (pv 2)) ja_nil)))))))))))
theorem none_hrel {G : Gm} {w : World} {K : PySem.W.Frag} {H : Hp} : HRel G w K [] [] H := ⟨rfl, List.nodup_nil, fun n a o h => by simp at h⟩
theorem law_says {w : World} {K : PySem.W.Frag} (H : Hp) (a : Addr) : FSp0 (GG K) w K 1 (lBody0 4 m_law) [.ref a] H (fun v _ => v = .bl true) fun _ _ _ => False := by
  refine ⟨rfl, [], [], none_hrel, ?_⟩
  have e := ev
  cases er : lBody0 4 m_law [] with
  | ok x L' =>
    rw [er] at e
    cases x with
    | bl b =>
      cases b with
      | true => exact fun μ' v H' _ _ r => r
      | false => cases e
    | _ => cases e
  | ex x L' => rw [er] at e; cases e
  | bad => rw [er] at e; cases e
end K06
open PySem PySem.W PySem.Calls PyProof.Rows
theorem PySem.Challenge.cw_lastcharge_k06_known_holds : PySem.Challenge.rw_lastcharge_k06_known.Holds := by
  w_on; o_law
  refine HandSHeadRun.head_any (r := OpenLaw.row PySem.Challenge.rw_lastcharge_k06_known) (q := view (OpenLaw.row PySem.Challenge.rw_lastcharge_k06_known).prog [75]) (H := K06.hk) (ob := K06.obsv) (M := 8000) (loose := K06.nm_) (d := HandSHeadRun.topDef (OpenLaw.row PySem.Challenge.rw_lastcharge_k06_known).prog 75) (kwd := []) K06.obsv_eq
    (by kernel_rfl) (fun s => by kernel_rfl) K06.run (by kernel_rfl) (by kernel_rfl) (by kernel_rfl) (by rfl) (by first | assumption | decide +kernel) (by decide +kernel) ⟨rfl, rfl, rfl, rfl, rfl, by decide +kernel⟩ ?hw ?hc
  case hw => w_witness2
  case hc =>
    refine LT.walk_lt (l := PySem.Challenge.rw_lastcharge_k06_known) (n := 63) (k := 12) (x := "_law_script") rfl (by decide) (by kernel_rfl) ⟨rfl, by decide, by decide⟩ ?F
    intro w mg fa h Y G hmg0
    obtain ⟨K, KX, c⟩ := Y
    have hmg : mg ("law" : PySem.Str) = some (.ref fa) := by
      have e : (HandSHeadRun.topDef (OpenLaw.row PySem.Challenge.rw_lastcharge_k06_known).prog 75).name = ("law" : PySem.Str) := by kernel_rfl
      rw [← e]
      exact hmg0
    have D : K06.HD K mg := ⟨⟨h, KX, G⟩, c⟩
    have e := hmg.symm.trans (K06.g_law D)
    cases e
    obtain ⟨fd, hb, hF⟩ := K06.law_ok (P := (PySem.Challenge.rw_lastcharge_k06_known).prog) (w := w) D
    exact ⟨K, fd, _, KX, hb, fun H a ns _ _ _ => K06.law_says H a, fun base _ _ => hF base⟩

