import PyProof.Rows.All
import Wide.All
import OpenK.AllK
import Wide.FinOn
import HandS.ForMost
import HandS.ForExc
import HandS.CallSlots
import HandS.TupAny
import HandS.TupLen
import HandS.IsInst
import HandS.Wide
import HandS.Small
import HandS.Text
import HandS.TupLe
import HandS.Style
import PyProof.Rows.TupMore
import PyProof.ReprRoads
import PyProof.CallFns
import HandS.RaiseMore
import HandS.More
import HandS.Words
import KE.SortData
import KE.DataCmp
import KE.DataMinMax
import HandS.Conv
import HandS.SortKw
import HandS.Zip
import HandS.Rev
import KE.DataFind
import HandS.Strs
import PyProof.Draws
import PyProof.StrLawsRepr
import PyProof.ReprText
import PyProof.ReprLen
import PySem.Challenge.RW_marginwords_k13_exchanges_told
set_option Elab.async false
set_option linter.all false
set_option maxRecDepth 100000
set_option maxHeartbeats 0
/-! Mx1: abstract values, what stands for them in the heap, the mirrors' monad, what a mirror says of a reading. -/
namespace Mx
open PySem L2

/-! ### abstract values -/
inductive AV where
  | non | bl (b : Bool) | int (i : Int) | str (x : Str)
  | tup (xs : List AV) | lst (xs : List AV) | fro (xs : List AV) | tuc (xs : List AV)
  | dK (kvs : List (Key × AV)) | dT (kvs : List (List Key × AV))
  | ref (n : Nat)

/-- the abstract heap: what may be changed, by number; the numbers that are locked -/
structure AH where
  objs : List AV
  fz : List Nat

inductive Res (α : Type) where
  | ok (a : α) (M : AH)
  | exc (c : Str) (fs : List (Str × AV)) (M : AH)
  | stuck

def Res.bind {α β : Type} (r : Res α) (f : α → AH → Res β) : Res β := match r with
  | .ok a M => f a M
  | .exc c fs M => .exc c fs M
  | .stuck => .stuck
@[simp] theorem Res.bind_ok {α β : Type} (a : α) (M : AH) (f : α → AH → Res β) : (Res.ok a M).bind f = f a M := rfl
@[simp] theorem Res.bind_exc {α β : Type} (c : Str) (fs : List (Str × AV)) (M : AH) (f : α → AH → Res β) : (Res.exc c fs M : Res α).bind f = .exc c fs M := rfl
@[simp] theorem Res.bind_stuck {α β : Type} (f : α → AH → Res β) : (Res.stuck : Res α).bind f = .stuck := rfl

/-! ### what stands for a value -/
/-- the addresses of the numbered objects; those that nobody sees yet (a comprehension's list) -/
structure Ix where
  num : List Addr
  prv : List Addr
instance : Membership Addr Ix := ⟨fun i a => a ∈ i.num ∨ a ∈ i.prv⟩
theorem Ix.num_in {i : Ix} {a : Addr} (h : a ∈ i.num) : a ∈ i := .inl h
theorem Ix.prv_in {i : Ix} {a : Addr} (h : a ∈ i.prv) : a ∈ i := .inr h
def KT (K : PySem.W.Frag) (a : Addr) (xs : List V) : Prop :=
  ∃ (o : Obj) (its : Array Value) (n : Nat), K.lookup a = some o ∧ o.cls = .type "tuple" ∧ o.data = .seq its n ∧ its.size ≤ sizeLine ∧ Vals xs its.toList ∧ o.dict = none
/-- a tuple whose object is known: it has no dict -/
def Kn (K : PySem.W.Frag) (i : Ix) (H : Hp) (a : Addr) (xs : List V) : Prop := ((∃ o : Obj, H a = some (.frz o (.tup xs)) ∧ o.dict = none) ∧ a ∉ i) ∨ KT K a xs
def KL (K : PySem.W.Frag) (a : Addr) (xs : List V) : Prop :=
  ∃ (o : Obj) (its : Array Value) (n : Nat), K.lookup a = some o ∧ o.cls = .type "list" ∧ o.dict = none ∧ o.data = .seq its n ∧ its.size ≤ sizeLine ∧ Vals xs its.toList

mutual
inductive VR (K : PySem.W.Frag) (i : Ix) (H : Hp) : V → AV → Prop
  | non : VR K i H .non .non
  | bl (b : Bool) : VR K i H (.bl b) (.bl b)
  | int (k : Int) : VR K i H (.int k) (.int k)
  | str (x : Str) : VR K i H (.str x) (.str x)
  | tup {a : Addr} {xs : List V} {as : List AV} : H a = some (.tup xs) → a ∉ i → VRs K i H xs as → VR K i H (.ref a) (.tup as)
  | lst {a : Addr} {xs : List V} {as : List AV} : H a = some (.lst xs) → a ∉ i → VRs K i H xs as → VR K i H (.ref a) (.lst as)
  | fro {a : Addr} {xs : List V} {as : List AV} : (Rd H a (.lst xs) ∧ a ∉ i) ∨ KL K a xs → VRs K i H xs as → VR K i H (.ref a) (.fro as)
  | tuc {a : Addr} {xs : List V} {as : List AV} : Kn K i H a xs → VRs K i H xs as → VR K i H (.ref a) (.tuc as)
  | ref {a : Addr} {n : Nat} : i.num[n]? = some a → VR K i H (.ref a) (.ref n)
inductive VRs (K : PySem.W.Frag) (i : Ix) (H : Hp) : List V → List AV → Prop
  | nil : VRs K i H [] []
  | cons {v : V} {a : AV} {vs : List V} {as : List AV} : VR K i H v a → VRs K i H vs as → VRs K i H (v :: vs) (a :: as)
inductive VRk (K : PySem.W.Frag) (i : Ix) (H : Hp) : List (Key × V) → List (Key × AV) → Prop
  | nil : VRk K i H [] []
  | cons {k : Key} {v : V} {a : AV} {us : List (Key × V)} {as : List (Key × AV)} : VR K i H v a → VRk K i H us as → VRk K i H ((k, v) :: us) ((k, a) :: as)
inductive VRt (K : PySem.W.Frag) (i : Ix) (H : Hp) : List (List Key × V) → List (List Key × AV) → Prop
  | nil : VRt K i H [] []
  | cons {k : List Key} {v : V} {a : AV} {us : List (List Key × V)} {as : List (List Key × AV)} : VR K i H v a → VRt K i H us as → VRt K i H ((k, v) :: us) ((k, a) :: as)
end

/-- from a state to a later one: numbers stay, new ones are of new addresses, what isn't numbered stays -/
structure Ext (i j : Ix) (H H' : Hp) : Prop where
  app : ∃ l, j.num = i.num ++ l
  prv : ∀ a, a ∈ i.prv → a ∈ j.prv
  hid : ∀ a, a ∈ j.prv → a ∉ i → H a = none
  new : ∀ a, a ∈ j.num → a ∉ i.num → H a = none
  keep : ∀ a u, a ∉ i.num → H a = some u → H' a = some u
  fro : ∀ a o u, H a = some (.frz o u) → H' a = some (.frz o u)

theorem rd_some {H : Hp} {a : Addr} {u : HO} (h : Rd H a u) : H a ≠ none := by
  rcases h with h | ⟨o, h⟩ <;> rw [h] <;> intro z <;> cases z
theorem ne_no {H : Hp} {a : Addr} {u : HO} (h : H a = some u) : H a ≠ none := by rw [h]; intro z; cases z
theorem Ext.refl {i : Ix} {H : Hp} : Ext i i H H := ⟨⟨[], by simp⟩, fun _ h => h, fun a h n => absurd (Or.inr h) n, fun a h n => absurd h n, fun _ _ _ h => h, fun _ _ _ h => h⟩
theorem Ext.notnum {i j : Ix} {H H' : Hp} (e : Ext i j H H') {a : Addr} (hn : a ∉ i.num) (h : H a ≠ none) : a ∉ j.num := fun z => h (e.new a z hn)
theorem Ext.notin {i j : Ix} {H H' : Hp} (e : Ext i j H H') {a : Addr} (hn : a ∉ i) (h : H a ≠ none) : a ∉ j := fun z => by
  rcases z with z | z
  · exact e.notnum (fun q => hn (.inl q)) h z
  · exact h (e.hid a z hn)
theorem Ext.rd {i j : Ix} {H H' : Hp} (e : Ext i j H H') {a : Addr} {u : HO} (hn : a ∉ i) (h : Rd H a u) : Rd H' a u := by
  have hn' : a ∉ i.num := fun z => hn (.inl z)
  rcases h with h | ⟨o, h⟩
  · exact .inl (e.keep _ _ hn' h)
  · exact .inr ⟨o, e.keep _ _ hn' h⟩
theorem Ext.same {i j : Ix} {H H' : Hp} (e : Ext i j H H') {a : Addr} {u : HO} (hn : a ∉ i) (h : H a = some u) : H' a = some u := e.keep _ _ (fun z => hn (.inl z)) h
theorem Ext.free {i j : Ix} {H H' : Hp} (e : Ext i j H H') {a : Addr} (hn : a ∉ i.num) (h : H' a = none) : H a = none := by
  cases q : H a with
  | none => rfl
  | some u =>
    rw [e.keep a u hn q] at h
    cases h
theorem Ext.sub {i j : Ix} {H H' : Hp} (e : Ext i j H H') {a : Addr} (h : a ∈ i.num) : a ∈ j.num := by
  obtain ⟨l, q⟩ := e.app
  rw [q]
  exact List.mem_append_left _ h
theorem Ext.trans {i j k : Ix} {H H1 H2 : Hp} (a : Ext i j H H1) (b : Ext j k H1 H2) : Ext i k H H2 where
  app := by
    obtain ⟨l, q⟩ := a.app
    obtain ⟨m, r⟩ := b.app
    exact ⟨l ++ m, by rw [r, q, List.append_assoc]⟩
  prv := fun x h => b.prv x (a.prv x h)
  hid := fun x hx hn => by
    by_cases hj : x ∈ j
    · rcases hj with hj | hj
      · exact a.new x hj fun z => hn (.inl z)
      · exact a.hid x hj hn
    · exact a.free (fun z => hn (.inl z)) (b.hid x hx hj)
  new := fun x hx hn => by
    by_cases hj : x ∈ j.num
    · exact a.new x hj hn
    · exact a.free hn (b.new x hx hj)
  keep := fun x u hn h => b.keep x u (a.notnum hn (ne_no h)) (a.keep x u hn h)
  fro := fun x o u h => b.fro x o u (a.fro x o u h)
theorem Ext.get {i j : Ix} {H H' : Hp} (e : Ext i j H H') {n : Nat} {a : Addr} (h : i.num[n]? = some a) : j.num[n]? = some a := by
  obtain ⟨l, q⟩ := e.app
  have hl : n < i.num.length := (List.getElem?_eq_some_iff.mp h).1
  rw [q, List.getElem?_append_left hl]
  exact h
/-- one address is written: a new one, or a numbered one -/
theorem Ext.one {i j : Ix} {H : Hp} {p : Addr} {o : HO} (h : H p = none ∨ p ∈ i.num) (ha : ∃ l, j.num = i.num ++ l) (hp : j.prv = i.prv) (hn : ∀ a, a ∈ j.num → a ∉ i.num → H a = none) (hf : ∀ o u, H p ≠ some (.frz o u)) : Ext i j H (upd H p o) := by
  refine ⟨ha, fun a h => by rw [hp]; exact h, fun a h n => absurd (Or.inr (hp ▸ h)) n, hn, fun a u hi hs => ?_, fun a o u hs => by
    have ne : a ≠ p := fun z => hf o u (z ▸ hs)
    rw [upd_ne ne]
    exact hs⟩
  have ne : a ≠ p := fun z => by
    subst z
    rcases h with h | h
    · exact ne_no hs h
    · exact hi h
  rw [upd_ne ne]
  exact hs
theorem Ext.fresh {i : Ix} {H : Hp} {p : Addr} {o : HO} (h : H p = none) : Ext i i H (upd H p o) := Ext.one (.inl h) ⟨[], by simp⟩ rfl (fun a h n => absurd h n) (fun _ _ z => by rw [h] at z; cases z)
theorem Ext.mut {i : Ix} {H : Hp} {a : Addr} {o : HO} (h : a ∈ i.num) (hf : ∀ o u, H a ≠ some (.frz o u)) : Ext i i H (upd H a o) := Ext.one (.inr h) ⟨[], by simp⟩ rfl (fun a h n => absurd h n) hf
/-- one number more -/
def Ix.push (i : Ix) (p : Addr) : Ix := ⟨i.num ++ [p], i.prv⟩
theorem Ext.push {i : Ix} {H : Hp} {p : Addr} {o : HO} (h : H p = none) : Ext i (i.push p) H (upd H p o) := Ext.one (.inl h) ⟨[p], rfl⟩ rfl (fun a ha hn => by
  rcases List.mem_append.mp ha with z | z
  · exact absurd z hn
  · rw [List.mem_singleton.mp z]
    exact h) (fun _ _ z => by rw [h] at z; cases z)
/-- one address that nobody sees -/
def Ix.hide (i : Ix) (p : Addr) : Ix := ⟨i.num, p :: i.prv⟩
theorem Ix.hide_not {i : Ix} {p a : Addr} (h : a ∉ i) (ne : a ≠ p) : a ∉ i.hide p := fun z => by
  rcases z with z | z
  · exact h (.inl z)
  · rcases List.mem_cons.mp z with z | z
    · exact ne z
    · exact h (.inr z)
theorem Ix.of_hide {i : Ix} {p a : Addr} (h : a ∉ i.hide p) : a ∉ i ∧ a ≠ p := ⟨fun z => by
  rcases z with z | z
  · exact h (.inl z)
  · exact h (.inr (List.mem_cons_of_mem _ z)), fun z => h (.inr (by rw [z]; exact List.mem_cons_self))⟩

theorem Kn.mono {K : PySem.W.Frag} {i j : Ix} {H H' : Hp} (e : Ext i j H H') {a : Addr} {xs : List V} (h : Kn K i H a xs) : Kn K j H' a xs := by
  rcases h with ⟨⟨o, h, d⟩, hn⟩ | h
  · exact .inl ⟨⟨o, e.same hn h, d⟩, e.notin hn (ne_no h)⟩
  · exact .inr h
theorem Kn.sq {K : PySem.W.Frag} {i : Ix} {H : Hp} {a : Addr} {xs : List V} (h : Kn K i H a xs) : SqT K H a xs := by
  rcases h with ⟨⟨o, h, d⟩, hn⟩ | ⟨o, its, n, h1, h2, h3, h4, h5, _⟩
  · exact .inl (.inr ⟨o, h⟩)
  · exact .inr ⟨o, its, n, h1, h2, h3, h4, h5⟩

section
variable {K : PySem.W.Frag} {i j : Ix} {H H' : Hp}
mutual
theorem VR.mono (e : Ext i j H H') : ∀ (x : AV) (v : V), VR K i H v x → VR K j H' v x
  | .non, _, h => by cases h; exact .non
  | .bl b, _, h => by cases h; exact .bl b
  | .int k, _, h => by cases h; exact .int k
  | .str x, _, h => by cases h; exact .str x
  | .tup as, _, h => by
    cases h with
    | tup h1 hn h2 => exact .tup (e.same hn h1) (e.notin hn (ne_no h1)) (VRs.mono e as _ h2)
  | .lst as, _, h => by
    cases h with
    | lst h1 hn h2 => exact .lst (e.same hn h1) (e.notin hn (ne_no h1)) (VRs.mono e as _ h2)
  | .fro as, _, h => by
    cases h with
    | fro h1 h2 =>
      refine .fro ?_ (VRs.mono e as _ h2)
      rcases h1 with ⟨h1, hn⟩ | h1
      · exact .inl ⟨e.rd hn h1, e.notin hn (rd_some h1)⟩
      · exact .inr h1
  | .tuc as, _, h => by
    cases h with
    | tuc h1 h2 => exact .tuc (h1.mono e) (VRs.mono e as _ h2)
  | .dK as, _, h => by cases h
  | .dT as, _, h => by cases h
  | .ref n, _, h => by
    cases h with
    | ref h1 => exact .ref (e.get h1)
theorem VRs.mono (e : Ext i j H H') : ∀ (as : List AV) (vs : List V), VRs K i H vs as → VRs K j H' vs as
  | [], _, h => by cases h; exact .nil
  | a :: as, _, h => by
    cases h with
    | cons h1 h2 => exact .cons (VR.mono e a _ h1) (VRs.mono e as _ h2)
theorem VRk.mono (e : Ext i j H H') : ∀ (as : List (Key × AV)) (us : List (Key × V)), VRk K i H us as → VRk K j H' us as
  | [], _, h => by cases h; exact .nil
  | (k, a) :: as, _, h => by
    cases h with
    | cons h1 h2 => exact .cons (VR.mono e a _ h1) (VRk.mono e as _ h2)
theorem VRt.mono (e : Ext i j H H') : ∀ (as : List (List Key × AV)) (us : List (List Key × V)), VRt K i H us as → VRt K j H' us as
  | [], _, h => by cases h; exact .nil
  | (k, a) :: as, _, h => by
    cases h with
    | cons h1 h2 => exact .cons (VR.mono e a _ h1) (VRt.mono e as _ h2)
end
end

/-! ### carried along where the unseen addresses change -/
section
variable {K : PySem.W.Frag} {i j : Ix} {H H' : Hp}
/-- what a value leans on is where it was -/
structure Carry (i j : Ix) (H H' : Hp) : Prop where
  num : ∀ (n : Nat) (a : Addr), i.num[n]? = some a → j.num[n]? = some a
  same : ∀ a u, a ∉ i → H a = some u → H' a = some u ∧ a ∉ j
mutual
theorem VR.carry (e : Carry i j H H') : ∀ (x : AV) (v : V), VR K i H v x → VR K j H' v x
  | .non, _, h => by cases h; exact .non
  | .bl b, _, h => by cases h; exact .bl b
  | .int k, _, h => by cases h; exact .int k
  | .str x, _, h => by cases h; exact .str x
  | .tup as, _, h => by
    cases h with
    | tup h1 hn h2 => exact .tup (e.same _ _ hn h1).1 (e.same _ _ hn h1).2 (VRs.carry e as _ h2)
  | .lst as, _, h => by
    cases h with
    | lst h1 hn h2 => exact .lst (e.same _ _ hn h1).1 (e.same _ _ hn h1).2 (VRs.carry e as _ h2)
  | .fro as, _, h => by
    cases h with
    | fro h1 h2 =>
      refine .fro ?_ (VRs.carry e as _ h2)
      rcases h1 with ⟨h1 | ⟨o, h1⟩, hn⟩ | h1
      · exact .inl ⟨.inl (e.same _ _ hn h1).1, (e.same _ _ hn h1).2⟩
      · exact .inl ⟨.inr ⟨o, (e.same _ _ hn h1).1⟩, (e.same _ _ hn h1).2⟩
      · exact .inr h1
  | .tuc as, _, h => by
    cases h with
    | tuc h1 h2 =>
      refine .tuc ?_ (VRs.carry e as _ h2)
      rcases h1 with ⟨⟨o, h1, d⟩, hn⟩ | h1
      · exact .inl ⟨⟨o, (e.same _ _ hn h1).1, d⟩, (e.same _ _ hn h1).2⟩
      · exact .inr h1
  | .dK as, _, h => by cases h
  | .dT as, _, h => by cases h
  | .ref n, _, h => by
    cases h with
    | ref h1 => exact .ref (e.num _ _ h1)
theorem VRs.carry (e : Carry i j H H') : ∀ (as : List AV) (vs : List V), VRs K i H vs as → VRs K j H' vs as
  | [], _, h => by cases h; exact .nil
  | a :: as, _, h => by
    cases h with
    | cons h1 h2 => exact .cons (VR.carry e a _ h1) (VRs.carry e as _ h2)
end
theorem VRk.carry (e : Carry i j H H') : ∀ (as : List (Key × AV)) (us : List (Key × V)), VRk K i H us as → VRk K j H' us as
  | [], _, h => by cases h; exact .nil
  | (k, a) :: as, _, h => by
    cases h with
    | cons h1 h2 => exact .cons (VR.carry e a _ h1) (VRk.carry e as _ h2)
theorem VRt.carry (e : Carry i j H H') : ∀ (as : List (List Key × AV)) (us : List (List Key × V)), VRt K i H us as → VRt K j H' us as
  | [], _, h => by cases h; exact .nil
  | (k, a) :: as, _, h => by
    cases h with
    | cons h1 h2 => exact .cons (VR.carry e a _ h1) (VRt.carry e as _ h2)
/-- a new address is hidden -/
theorem Carry.hide {p : Addr} {o : HO} (h : H p = none) : Carry i (i.hide p) H (upd H p o) := ⟨fun n a e => e, fun a u hn e => by
  have ne : a ≠ p := fun z => by rw [z, h] at e; cases e
  exact ⟨by rw [upd_ne ne]; exact e, Ix.hide_not hn ne⟩⟩
/-- it is seen again -/
def Ix.show (i : Ix) (p : Addr) : Ix := ⟨i.num, i.prv.filter fun a => decide (a ≠ p)⟩
theorem Ix.not_show {i : Ix} {p a : Addr} (h : a ∉ i) : a ∉ i.show p := fun z => by
  rcases z with z | z
  · exact h (.inl z)
  · exact h (.inr (List.mem_filter.mp z).1)
theorem Carry.show {p : Addr} : Carry i (i.show p) H H := ⟨fun n a e => e, fun a u hn e => ⟨e, Ix.not_show hn⟩⟩
theorem Carry.mutp {p : Addr} {o : HO} (hp : p ∈ i.prv) : Carry i i H (upd H p o) := ⟨fun n a e => e, fun a u hn e => by
  have ne : a ≠ p := fun z => hn (.inr (z ▸ hp))
  exact ⟨by rw [upd_ne ne]; exact e, hn⟩⟩
/-- a numbered thing is written -/
theorem Carry.mutn {a : Addr} {o : HO} (h : a ∈ i.num) : Carry i i H (upd H a o) := ⟨fun n b e => e, fun b u hn e => by
  have ne : b ≠ a := fun z => hn (.inl (z ▸ h))
  exact ⟨by rw [upd_ne ne]; exact e, hn⟩⟩
end
end Mx

/-! Mx1b: the abstract heap's tie, slots, posts, readings of mirrors. -/
namespace Mx
open PySem L2

/-! ### the numbered objects -/
inductive OR (K : PySem.W.Frag) (i : Ix) (H : Hp) (a : Addr) (fr : Prop) : AV → Prop
  | lst {vs : List V} {as : List AV} : H a = some (.lst vs) → VRs K i H vs as → OR K i H a fr (.lst as)
  | dK {us : List (Key × V)} {as : List (Key × AV)} : (H a = some (.dK us) ∨ (fr ∧ ∃ o, H a = some (.frz o (.dK us)))) → VRk K i H us as → OR K i H a fr (.dK as)
  | dT {us : List (List Key × V)} {as : List (List Key × AV)} : (H a = some (.dT us) ∨ (fr ∧ ∃ o, H a = some (.frz o (.dT us)))) → VRt K i H us as → OR K i H a fr (.dT as)

structure Sim (K : PySem.W.Frag) (i : Ix) (M : AH) (H : Hp) : Prop where
  len : i.num.length = M.objs.length
  nd : i.num.Nodup
  sep : ∀ a, a ∈ i.prv → a ∉ i.num ∧ H a ≠ none
  obj : ∀ (n : Nat) (a : Addr) (c : AV), i.num[n]? = some a → M.objs[n]? = some c → OR K i H a (n ∈ M.fz) c
  nt : ∀ a, a ∈ i.prv → ∀ us, H a ≠ some (.tup us)
  fzl : ∀ n, n ∈ M.fz → ∃ a, i.num[n]? = some a ∧ ∃ o u, H a = some (.frz o u)

section
variable {K : PySem.W.Frag} {i j : Ix} {H H' : Hp} {M : AH}
theorem OR.some {a : Addr} {fr : Prop} {c : AV} (h : OR K i H a fr c) : H a ≠ none := by
  cases h with
  | lst h _ => rw [h]; intro z; cases z
  | dK h _ =>
    rcases h with h | ⟨_, o, h⟩ <;> rw [h] <;> intro z <;> cases z
  | dT h _ =>
    rcases h with h | ⟨_, o, h⟩ <;> rw [h] <;> intro z <;> cases z
theorem Sim.get (S : Sim K i M H) {n : Nat} {a : Addr} (h : i.num[n]? = some a) : ∃ c, M.objs[n]? = some c ∧ OR K i H a (n ∈ M.fz) c := by
  have hl : n < M.objs.length := by
    rw [← S.len]
    exact (List.getElem?_eq_some_iff.mp h).1
  exact ⟨M.objs[n], List.getElem?_eq_getElem hl, S.obj n a _ h (List.getElem?_eq_getElem hl)⟩
theorem Sim.dom (S : Sim K i M H) {a : Addr} (h : a ∈ i) : H a ≠ none := by
  rcases h with h | h
  case inr => exact (S.sep a h).2
  obtain ⟨n, hn, e⟩ := List.mem_iff_getElem.mp h
  obtain ⟨c, _, o⟩ := S.get (n := n) (a := a) (by rw [List.getElem?_eq_getElem hn, e])
  exact o.some
theorem Sim.notin (S : Sim K i M H) {a : Addr} (h : H a = none) : a ∉ i := fun z => S.dom z h
theorem Sim.at (S : Sim K i M H) {n : Nat} {c : AV} (h : M.objs[n]? = some c) : ∃ a, i.num[n]? = some a ∧ OR K i H a (n ∈ M.fz) c := by
  have hl : n < i.num.length := by
    rw [S.len]
    exact (List.getElem?_eq_some_iff.mp h).1
  exact ⟨i.num[n], List.getElem?_eq_getElem hl, S.obj n _ c (List.getElem?_eq_getElem hl) h⟩
/-- content stays under an extension that keeps the very objects at the numbers -/
theorem OR.mono {a : Addr} {fr fr' : Prop} {c : AV} (e : Ext i j H H') (s : H' a = H a) (f : fr → fr') (h : OR K i H a fr c) : OR K j H' a fr' c := by
  cases h with
  | lst h1 h2 => exact .lst (by rw [s]; exact h1) (h2.mono e)
  | dK h1 h2 =>
    refine .dK ?_ (h2.mono e)
    rw [s]
    rcases h1 with h1 | ⟨h0, h1⟩
    · exact .inl h1
    · exact .inr ⟨f h0, h1⟩
  | dT h1 h2 =>
    refine .dT ?_ (h2.mono e)
    rw [s]
    rcases h1 with h1 | ⟨h0, h1⟩
    · exact .inl h1
    · exact .inr ⟨f h0, h1⟩
/-- nothing numbered has changed -/
theorem Sim.stay (S : Sim K i M H) (e : Ext i i H H') (s : ∀ a, a ∈ i → H' a = H a) : Sim K i M H' := ⟨S.len, S.nd, fun a ha => ⟨(S.sep a ha).1, by rw [s a (.inr ha)]; exact (S.sep a ha).2⟩, fun n a c h1 h2 => (S.obj n a c h1 h2).mono e (s a (.inl (List.mem_of_getElem? h1))) id, fun a ha us => by rw [s a (.inr ha)]; exact S.nt a ha us, fun n hn => by
    obtain ⟨a, h1, o, u, h2⟩ := S.fzl n hn
    exact ⟨a, h1, o, u, by rw [s a (.inl (List.mem_of_getElem? h1))]; exact h2⟩⟩
theorem Sim.fresh {p : Addr} {o : HO} (S : Sim K i M H) (h : H p = none) : Sim K i M (upd H p o) := S.stay (Ext.fresh h) fun a ha => by
  have ne : a ≠ p := fun z => S.notin h (z ▸ ha)
  exact upd_ne ne
/-- a new object gets the next number -/
theorem Sim.push {p : Addr} {o : HO} {c : AV} (S : Sim K i M H) (h : H p = none) (ho : OR K (i.push p) (upd H p o) p (i.num.length ∈ M.fz) c) : Sim K (i.push p) ⟨M.objs ++ [c], M.fz⟩ (upd H p o) where
  len := by simp [Ix.push, S.len]
  sep := fun a ha => by
    have ha' : a ∈ i.prv := ha
    have ne : a ≠ p := fun z => (S.sep a ha').2 (z ▸ h)
    refine ⟨fun z => ?_, by rw [upd_ne ne]; exact (S.sep a ha').2⟩
    rcases List.mem_append.mp z with z | z
    · exact (S.sep a ha').1 z
    · exact ne (List.mem_singleton.mp z)
  nt := fun a ha us => by
    have ha' : a ∈ i.prv := ha
    have ne : a ≠ p := fun z => (S.sep a ha').2 (z ▸ h)
    rw [upd_ne ne]
    exact S.nt a ha' us
  fzl := fun n hn => by
    obtain ⟨a, h1, o, u, h2⟩ := S.fzl n hn
    have ne : a ≠ p := fun z => by rw [z, h] at h2; cases h2
    refine ⟨a, ?_, o, u, by rw [upd_ne ne]; exact h2⟩
    show (i.num ++ [p])[n]? = some a
    rw [List.getElem?_append_left (List.getElem?_eq_some_iff.mp h1).1]
    exact h1
  nd := by
    show (i.num ++ [p]).Nodup
    rw [List.nodup_append]
    refine ⟨S.nd, by simp, fun a ha b hb z => ?_⟩
    rw [List.mem_singleton.mp hb] at z
    exact S.notin h (z ▸ .inl ha)
  obj := fun n a d h1 h2 => by
    have h1 : (i.num ++ [p])[n]? = some a := h1
    by_cases hn : n < i.num.length
    · rw [List.getElem?_append_left hn] at h1
      have hn' : n < M.objs.length := by rw [← S.len]; exact hn
      have h2' : M.objs[n]? = some d := by
        have q : (M.objs ++ [c])[n]? = some d := h2
        rw [List.getElem?_append_left hn'] at q
        exact q
      have ne : a ≠ p := fun z => S.notin h (z ▸ .inl (List.mem_of_getElem? h1))
      exact (S.obj n a d h1 h2').mono (Ext.push h) (upd_ne ne) id
    · have hl := (List.getElem?_eq_some_iff.mp h1).1
      simp only [List.length_append, List.length_cons, List.length_nil] at hl
      have e : n = i.num.length := by omega
      subst e
      have q1 : a = p := by
        simp at h1
        exact h1.symm
      have q2 : d = c := by
        have q : (M.objs ++ [c])[i.num.length]? = some d := h2
        rw [S.len] at q
        simp at q
        exact q.symm
      rw [q1, q2]
      exact ho
theorem OR.carry0 {a : Addr} {fr : Prop} {c : AV} (e : Carry i j H H') (s : H' a = H a) (h : OR K i H a fr c) : OR K j H' a fr c := by
  cases h with
  | lst h1 h2 => exact .lst (by rw [s]; exact h1) (h2.carry e)
  | dK h1 h2 => exact .dK (by rw [s]; exact h1) (h2.carry e)
  | dT h1 h2 => exact .dT (by rw [s]; exact h1) (h2.carry e)
theorem OR.fr {a : Addr} {f g : Prop} {c : AV} (h : OR K i H a f c) (k : f → g) : OR K i H a g c := by
  cases h with
  | lst h1 h2 => exact .lst h1 h2
  | dK h1 h2 => exact .dK (h1.imp id fun ⟨z, q⟩ => ⟨k z, q⟩) h2
  | dT h1 h2 => exact .dT (h1.imp id fun ⟨z, q⟩ => ⟨k z, q⟩) h2
theorem Sim.nofz (S : Sim K i M H) {n : Nat} {a : Addr} {u : HO} (h : i.num[n]? = some a) (hu : H a = some u) (hz : ∀ o u', u ≠ .frz o u') : n ∉ M.fz := fun z => by
  obtain ⟨b, h1, o, u', h2⟩ := S.fzl n z
  rw [h] at h1
  cases h1
  rw [hu] at h2
  exact hz _ _ (Option.some.inj h2)
theorem Sim.same {n : Nat} {o : HO} (h : n ∉ M.fz) : ∀ m, m ∈ M.fz → (m ≠ n ∧ m ∈ M.fz) ∨ (m = n ∧ ∃ od u, o = .frz od u) := fun m hm => .inl ⟨fun e => h (e ▸ hm), hm⟩
/-- a numbered object is written -/
theorem Sim.set {n : Nat} {a : Addr} {o : HO} {c : AV} {fz : List Nat} (S : Sim K i M H) (h : i.num[n]? = some a) (ho : OR K i (upd H a o) a (n ∈ fz) c) (hf : ∀ m, m ≠ n → m ∈ M.fz → m ∈ fz) (hz : ∀ m, m ∈ fz → (m ≠ n ∧ m ∈ M.fz) ∨ (m = n ∧ ∃ od u, o = .frz od u)) : Sim K i ⟨M.objs.set n c, fz⟩ (upd H a o) where
  len := by simp [S.len]
  sep := fun b hb => by
    have ne : b ≠ a := fun z => (S.sep b hb).1 (z ▸ List.mem_of_getElem? h)
    exact ⟨(S.sep b hb).1, by rw [upd_ne ne]; exact (S.sep b hb).2⟩
  fzl := fun m hm => by
    rcases hz m hm with ⟨ne, hm⟩ | ⟨rfl, od, u, rfl⟩
    · obtain ⟨b, h1, o', u, h2⟩ := S.fzl m hm
      have nb : b ≠ a := fun z => ne (nd_ix S.nd h1 (z ▸ h))
      exact ⟨b, h1, o', u, by rw [upd_ne nb]; exact h2⟩
    · exact ⟨a, h, od, u, upd_same⟩
  nt := fun b hb us => by
    have ne : b ≠ a := fun z => (S.sep b hb).1 (z ▸ List.mem_of_getElem? h)
    rw [upd_ne ne]
    exact S.nt b hb us
  nd := S.nd
  obj := fun m b d h1 h2 => by
    by_cases e : m = n
    · subst e
      rw [h] at h1
      have q1 : a = b := Option.some.inj h1
      have hl : m < M.objs.length := by
        rw [← S.len]
        exact (List.getElem?_eq_some_iff.mp h).1
      have q2 : (M.objs.set m c)[m]? = some d := h2
      rw [List.getElem?_set_self hl] at q2
      rw [← q1, ← Option.some.inj q2]
      exact ho
    · have q2 : (M.objs.set n c)[m]? = some d := h2
      rw [List.getElem?_set_ne (Ne.symm e)] at q2
      have ne : b ≠ a := fun z => by
        rw [z] at h1
        exact e (nd_ix S.nd h1 h)
      exact ((S.obj m b d h1 q2).carry0 (Carry.mutn (List.mem_of_getElem? h)) (upd_ne ne)).fr (hf m e)
/-- content is carried -/
theorem OR.carry {a : Addr} {fr : Prop} {c : AV} (e : Carry i j H H') (s : H' a = H a) (h : OR K i H a fr c) : OR K j H' a fr c := by
  cases h with
  | lst h1 h2 => exact .lst (by rw [s]; exact h1) (h2.carry e)
  | dK h1 h2 => exact .dK (by rw [s]; exact h1) (h2.carry e)
  | dT h1 h2 => exact .dT (by rw [s]; exact h1) (h2.carry e)
theorem Sim.hide {p : Addr} {o : HO} (S : Sim K i M H) (h : H p = none) (ho : ∀ us, o ≠ .tup us := by intro _ z; cases z) : Sim K (i.hide p) M (upd H p o) where
  nt := fun a ha us => by
    rcases List.mem_cons.mp ha with z | z
    · subst z
      rw [upd_same]
      exact fun q => ho us (Option.some.inj q)
    · have ne : a ≠ p := fun q => (S.sep a z).2 (q ▸ h)
      rw [upd_ne ne]
      exact S.nt a z us
  fzl := fun n hn => by
    obtain ⟨a, h1, o', u, h2⟩ := S.fzl n hn
    have ne : a ≠ p := fun z => by rw [z, h] at h2; cases h2
    exact ⟨a, h1, o', u, by rw [upd_ne ne]; exact h2⟩
  len := S.len
  nd := S.nd
  sep := fun a ha => by
    rcases List.mem_cons.mp ha with z | z
    · subst z
      exact ⟨fun q => S.notin h (.inl q), by rw [upd_same]; intro q; cases q⟩
    · have ne : a ≠ p := fun q => (S.sep a z).2 (q ▸ h)
      exact ⟨(S.sep a z).1, by rw [upd_ne ne]; exact (S.sep a z).2⟩
  obj := fun n a c h1 h2 => (S.obj n a c h1 h2).carry (Carry.hide h) (upd_ne fun z => S.notin h (z ▸ .inl (List.mem_of_getElem? h1)))
theorem Sim.hmut {p : Addr} {o : HO} (S : Sim K i M H) (hp : p ∈ i.prv) (ho : ∀ us, o ≠ .tup us := by intro _ z; cases z) : Sim K i M (upd H p o) where
  nt := fun a ha us => by
    by_cases z : a = p
    · rw [z, upd_same]
      exact fun q => ho us (Option.some.inj q)
    · rw [upd_ne z]
      exact S.nt a ha us
  fzl := fun n hn => by
    obtain ⟨a, h1, o', u, h2⟩ := S.fzl n hn
    have ne : a ≠ p := fun z => (S.sep p hp).1 (z ▸ List.mem_of_getElem? h1)
    exact ⟨a, h1, o', u, by rw [upd_ne ne]; exact h2⟩
  len := S.len
  nd := S.nd
  sep := fun a ha => ⟨(S.sep a ha).1, by
    by_cases z : a = p
    · rw [z, upd_same]
      intro q
      cases q
    · rw [upd_ne z]
      exact (S.sep a ha).2⟩
  obj := fun n a c h1 h2 => (S.obj n a c h1 h2).carry (Carry.mutp hp) (upd_ne fun z => (S.sep p hp).1 (z ▸ List.mem_of_getElem? h1))
theorem Sim.show {p : Addr} (S : Sim K i M H) : Sim K (i.show p) M H where
  len := S.len
  nd := S.nd
  sep := fun a ha => S.sep a (List.mem_filter.mp ha).1
  nt := fun a ha => S.nt a (List.mem_filter.mp ha).1
  fzl := S.fzl
  obj := fun n a c h1 h2 => (S.obj n a c h1 h2).carry Carry.show rfl
end

/-! ### the slots -/
abbrev Env := List (Option AV)
structure ER (K : PySem.W.Frag) (i : Ix) (H : Hp) (σ : St) (G : Env) : Prop where
  len : σ.length = G.length
  at' : ∀ (n : Nat) (a : AV), G[n]? = some (some a) → ∃ v, σ[n]? = some (some v) ∧ VR K i H v a
theorem ER.mono {K : PySem.W.Frag} {i j : Ix} {H H' : Hp} {σ : St} {G : Env} (e : Ext i j H H') (r : ER K i H σ G) : ER K j H' σ G := ⟨r.len, fun n a h =>
  let ⟨v, h1, h2⟩ := r.at' n a h
  ⟨v, h1, h2.mono e⟩⟩
theorem ER.set {K : PySem.W.Frag} {i : Ix} {H : Hp} {σ : St} {G : Env} {n : Nat} {v : V} {a : AV} (r : ER K i H σ G) (h : VR K i H v a) : ER K i H (σ.set n (some v)) (G.set n (some a)) := ⟨by simp [r.len], fun m b hb => by
  by_cases e : m = n
  · subst e
    have hl : m < G.length := by
      have q := (List.getElem?_eq_some_iff.mp hb).1
      simpa using q
    rw [List.getElem?_set_self hl] at hb
    have q : a = b := Option.some.inj (Option.some.inj hb)
    exact ⟨v, by rw [List.getElem?_set_self (by rw [r.len]; exact hl)], q ▸ h⟩
  · rw [List.getElem?_set_ne (Ne.symm e)] at hb
    obtain ⟨w, h1, h2⟩ := r.at' m b hb
    exact ⟨w, by rw [List.getElem?_set_ne (Ne.symm e)]; exact h1, h2⟩⟩
theorem ER.carry {K : PySem.W.Frag} {i j : Ix} {H H' : Hp} {σ : St} {G : Env} (e : Carry i j H H') (r : ER K i H σ G) : ER K j H' σ G := ⟨r.len, fun n a h =>
  let ⟨v, h1, h2⟩ := r.at' n a h
  ⟨v, h1, h2.carry e⟩⟩
/-- a slot is forgotten -/
theorem ER.drop {K : PySem.W.Frag} {i : Ix} {H : Hp} {σ : St} {G : Env} {n : Nat} {o : Option V} (r : ER K i H σ G) : ER K i H (σ.set n o) (G.set n none) := ⟨by simp [r.len], fun m b hb => by
  by_cases e : m = n
  · subst e
    by_cases hl : m < G.length
    · rw [List.getElem?_set_self hl] at hb
      cases hb
    · rw [List.getElem?_eq_none (by simpa using hl)] at hb
      cases hb
  · rw [List.getElem?_set_ne (Ne.symm e)] at hb
    obtain ⟨w, h1, h2⟩ := r.at' m b hb
    exact ⟨w, by rw [List.getElem?_set_ne (Ne.symm e)]; exact h1, h2⟩⟩

/-! ### an error, as a mirror tells it -/
inductive FR (K : PySem.W.Frag) (i : Ix) (H : Hp) : List (Str × V) → List (Str × AV) → Prop
  | nil : FR K i H [] []
  | cons {f : Str} {v : V} {a : AV} {us : List (Str × V)} {as : List (Str × AV)} : VR K i H v a → FR K i H us as → FR K i H ((f, v) :: us) ((f, a) :: as)
theorem FR.mono {K : PySem.W.Frag} {i j : Ix} {H H' : Hp} (e : Ext i j H H') : ∀ {us : List (Str × V)} {as : List (Str × AV)}, FR K i H us as → FR K j H' us as
  | _, _, .nil => .nil
  | _, _, .cons h r => .cons (h.mono e) (r.mono e)
structure Cm where
  K : PySem.W.Frag
  mg : Str → Option Value
def XR (C : Cm) (i : Ix) (H : Hp) (cls : Value) (d : Option Addr) (c : Str) (fs : List (Str × AV)) : Prop :=
  ∃ A, C.mg c = some (.ref A) ∧ cls = .ref A ∧ ∃ dx us, d = some dx ∧ dx ∉ i ∧ H dx = some (.xd us) ∧ FR C.K i H us fs

/-! ### what is wanted behind -/
def post {α β : Type} (C : Cm) (R : Ix → Hp → β → α → Prop) (i : Ix) (H : Hp) (r : Res α) (Q : β → Hp → Prop) (W : XK) : Prop := match r with
  | .ok a M => ∀ v j H', Ext i j H H' → Sim C.K j M H' → R j H' v a → Q v H'
  | .exc c fs M => ∀ cls d j H', Ext i j H H' → Sim C.K j M H' → XR C j H' cls d c fs → W cls d H'
  | .stuck => False
abbrev RV (C : Cm) : Ix → Hp → V → AV → Prop := fun i H v a => VR C.K i H v a
abbrev RVs (C : Cm) : Ix → Hp → List V → List AV → Prop := fun i H v a => VRs C.K i H v a
abbrev RB : Ix → Hp → Bool → Bool → Prop := fun _ _ v a => v = a
abbrev RO : Ix → Hp → Option Int → Option Int → Prop := fun _ _ v a => v = a

theorem post.bind {α β γ δ : Type} {C : Cm} {R : Ix → Hp → β → α → Prop} {R' : Ix → Hp → δ → γ → Prop} {i : Ix} {H : Hp} {r : Res α} {f : α → AH → Res γ} {Q : δ → Hp → Prop} {W : XK} (h : post C R' i H (r.bind f) Q W) :
    post C R i H r (fun v H1 => ∃ j a M, Ext i j H H1 ∧ Sim C.K j M H1 ∧ R j H1 v a ∧ post C R' j H1 (f a M) Q W) W := by
  cases r with
  | ok a M =>
    intro v j H' e s rr
    refine ⟨j, a, M, e, s, rr, ?_⟩
    have h' : post C R' i H (f a M) Q W := h
    cases q : f a M with
    | ok b M' =>
      rw [q] at h'
      intro v' k H2 e2 s2 r2
      exact h' v' k H2 (e.trans e2) s2 r2
    | exc c fs M' =>
      rw [q] at h'
      intro cls d k H2 e2 s2 x2
      exact h' cls d k H2 (e.trans e2) s2 x2
    | stuck =>
      rw [q] at h'
      exact h'
  | exc c fs M => exact h
  | stuck => exact h
theorem post.imp {α β : Type} {C : Cm} {R : Ix → Hp → β → α → Prop} {i : Ix} {H : Hp} {r : Res α} {Q Q' : β → Hp → Prop} {W W' : XK} (h : post C R i H r Q W) (hq : ∀ v H', Q v H' → Q' v H') (hw : ∀ c d H', W c d H' → W' c d H') : post C R i H r Q' W' := by
  cases r with
  | ok a M => exact fun v j H' e s r => hq _ _ (h v j H' e s r)
  | exc c fs M => exact fun cls d j H' e s x => hw _ _ _ (h cls d j H' e s x)
  | stuck => exact h
/-- at once -/
theorem post.now {α β : Type} {C : Cm} {R : Ix → Hp → β → α → Prop} {i : Ix} {H : Hp} {M : AH} {a : α} {v : β} {Q : β → Hp → Prop} {W : XK} (h : post C R i H (.ok a M) Q W) (s : Sim C.K i M H) (r : R i H v a) : Q v H := h v i H Ext.refl s r

/-! ### readings -/
abbrev EM := Env → AH → Res AV
abbrev BM := Env → AH → Res Bool
abbrev AM := Env → AH → Res (List AV)
abbrev OM := Env → AH → Res (Option Int)
def tM {α β : Type} (C : Cm) (W : WX) (R : Ix → Hp → β → α → Prop) (m : Env → AH → Res α) : St → Hp → (β → Hp → Prop) → Prop := fun σ H Q =>
  ∃ i G M, Sim C.K i M H ∧ ER C.K i H σ G ∧ post C R i H (m G M) Q (fun c d H' => W c d σ H')
abbrev tE (C : Cm) (W : WX) (m : EM) : TE := tM C W (RV C) m
abbrev tB' (C : Cm) (W : WX) (m : BM) : TT := tM C W RB m
abbrev tA (C : Cm) (W : WX) (m : AM) : TA := tM C W (RVs C) m
abbrev cm (X : Cx) : Cm := ⟨X.K, X.mg⟩

theorem PE.imp {X : Cx} {e : Expr} {t t' : TE} (h : PE X e t) (f : ∀ σ H Q, t' σ H Q → t σ H Q) : PE X e t' := ⟨fun pins s σ H Q I q => h.run pins s σ H Q I (f σ H Q q)⟩
theorem PT.imp {X : Cx} {e : Expr} {t t' : TT} (h : PT X e t) (f : ∀ σ H Q, t' σ H Q → t σ H Q) : PT X e t' := ⟨fun pins s σ H Q I q => h.run pins s σ H Q I (f σ H Q q)⟩
theorem PW.imp {X : Cx} {e : Expr} {t t' : TT} (h : PW X e t) (f : ∀ σ H Q, t' σ H Q → t σ H Q) : PW X e t' := ⟨fun wh pins s σ H Q I q => h.run wh pins s σ H Q I (f σ H Q q)⟩
theorem PA.imp {X : Cx} {es : List Expr} {t t' : TA} (h : PA X es t) (f : ∀ σ H Q, t' σ H Q → t σ H Q) : PA X es t' := ⟨fun pos pins s σ H Q I q => h.run pos pins s σ H Q I (f σ H Q q)⟩
theorem PS.imp {X : Cx} {st : Stmt} {t t' : TS} (h : PS X st t) (f : ∀ D σ H, t' D σ H → t D σ H) : PS X st t' := ⟨fun pins s σ H D I q => h.run pins s σ H D I (f D σ H q)⟩
theorem PSs.imp {X : Cx} {st : List Stmt} {t t' : TS} (h : PSs X st t) (f : ∀ D σ H, t' D σ H → t D σ H) : PSs X st t' := ⟨fun pins s σ H D I q => h.run pins s σ H D I (f D σ H q)⟩

/-- the first part of a mirror that goes by steps -/
theorem tM.bind {α β γ δ : Type} {C : Cm} {W : WX} {R : Ix → Hp → β → α → Prop} {R' : Ix → Hp → δ → γ → Prop} {m : Env → AH → Res α} {f : Env → α → AH → Res γ} {σ : St} {H : Hp} {Q : δ → Hp → Prop}
    (h : tM C W R' (fun G M => (m G M).bind (f G)) σ H Q) :
    tM C W R m σ H (fun v H1 => ∃ j G a M, Sim C.K j M H1 ∧ ER C.K j H1 σ G ∧ R j H1 v a ∧ post C R' j H1 (f G a M) Q (fun c d H' => W c d σ H')) := by
  obtain ⟨i, G, M, s, r, p⟩ := h
  refine ⟨i, G, M, s, r, (post.bind (R := R) p).imp (fun v H1 ⟨j, a, M', e, s', rr, p'⟩ => ?_) fun _ _ _ z => z⟩
  exact ⟨j, G, a, M', s', r.mono e, rr, p'⟩
end Mx

/-! Mx2: expressions: names, constants, operators, tests, calls by values, displays. -/
namespace Mx
open PySem L2

theorem tM.imp {α β : Type} {C : Cm} {W : WX} {R : Ix → Hp → β → α → Prop} {m : Env → AH → Res α} {σ : St} {H : Hp} {Q Q' : β → Hp → Prop} (h : tM C W R m σ H Q) (f : ∀ v H', Q v H' → Q' v H') : tM C W R m σ H Q' :=
  let ⟨i, G, M, s, r, p⟩ := h
  ⟨i, G, M, s, r, p.imp f fun _ _ _ z => z⟩

/-! ### names and constants -/
def mVar (n : Nat) : EM := fun G M => match G[n]? with
  | some (some a) => .ok a M
  | _ => .stuck
def mC (a : AV) : EM := fun _ M => .ok a M
section
variable {X : Cx} {W : WX} {pos : Pos}
theorem e_name {n : Nat} {x : Str} (h : PE X (.Name x pos) (tVar n)) : PE X (.Name x pos) (tE (cm X) W (mVar n)) := PE.imp h fun σ H Q ⟨i, G, M, s, r, p⟩ => by
  unfold mVar at p
  cases e : G[n]? with
  | none =>
    rw [e] at p
    exact p.elim
  | some o =>
    rw [e] at p
    cases o with
    | none => exact p.elim
    | some a =>
      obtain ⟨v, h1, h2⟩ := r.at' n a e
      exact ⟨v, h1, p.now s h2⟩
theorem e_const {e : Expr} {v : V} {a : AV} (h : PE X e (tC v)) (r : ∀ i H, VR X.K i H v a) : PE X e (tE (cm X) W (mC a)) := PE.imp h fun σ H Q ⟨i, G, M, s, _, p⟩ => p.now s (r i H)
theorem e_int {i : Int} {j : Nat} : PE X (.Constant (.int i) j pos) (tE (cm X) W (mC (.int i))) := e_const pe_int fun _ _ => .int i
theorem e_bl {b : Bool} {j : Nat} : PE X (.Constant (.bool b) j pos) (tE (cm X) W (mC (.bl b))) := e_const pe_bl fun _ _ => .bl b
theorem e_non {j : Nat} : PE X (.Constant .none j pos) (tE (cm X) W (mC .non)) := e_const pe_non fun _ _ => .non
theorem e_str {x : Str} {j : Nat} : PE X (.Constant (.str x) j pos) (tE (cm X) W (mC (.str x))) := e_const pe_str fun _ _ => .str x
end

/-! ### operators on values -/
def mBin (g : AV → AV → AH → Res AV) (ma mb : EM) : EM := fun G M => (ma G M).bind fun a M1 => (mb G M1).bind fun b M2 => g a b M2
def mUn (g : AV → AH → Res AV) (ma : EM) : EM := fun G M => (ma G M).bind fun a M1 => g a M1
def Op2 (C : Cm) (r : R2) (g : AV → AV → AH → Res AV) : Prop := ∀ i M H x y a b Q W, Sim C.K i M H → VR C.K i H x a → VR C.K i H y b → post C (RV C) i H (g a b M) Q W → r x y H Q
def Op1 (C : Cm) (r : V → Hp → VK → Prop) (g : AV → AH → Res AV) : Prop := ∀ i M H x a Q W, Sim C.K i M H → VR C.K i H x a → post C (RV C) i H (g a M) Q W → r x H Q
theorem bin2 {C : Cm} {W : WX} {r : R2} {g : AV → AV → AH → Res AV} {ma mb : EM} {σ : St} {H : Hp} {Q : VK} (hg : Op2 C r g) (h : tE C W (mBin g ma mb) σ H Q) : tOp r (tE C W ma) (tE C W mb) σ H Q := by
  have h1 := tM.bind (R := RV C) (m := ma) (f := fun G a M1 => (mb G M1).bind fun b M2 => g a b M2) h
  refine tM.imp h1 fun x H1 ⟨j, G, a, M, s, r, rr, p⟩ => ?_
  exact ⟨j, G, M, s, r, (post.bind (R := RV C) p).imp (fun y H2 ⟨k, b, M2, e, s2, ry, p2⟩ => hg k M2 H2 x y a b Q _ s2 (rr.mono e) ry p2) fun _ _ _ z => z⟩
theorem un1 {C : Cm} {W : WX} {r : V → Hp → VK → Prop} {g : AV → AH → Res AV} {ma : EM} {σ : St} {H : Hp} {Q : VK} (hg : Op1 C r g) (h : tE C W (mUn g ma) σ H Q) : tUn r (tE C W ma) σ H Q := by
  have h1 := tM.bind (R := RV C) (m := ma) (f := fun G a M1 => g a M1) h
  exact tM.imp h1 fun x H1 ⟨j, G, a, M, s, r, rr, p⟩ => hg j M H1 x a Q _ s rr p
theorem Op2.or {C : Cm} {r r' : R2} {g : AV → AV → AH → Res AV} (h : ∀ i M H x y a b Q W, Sim C.K i M H → VR C.K i H x a → VR C.K i H y b → post C (RV C) i H (g a b M) Q W → r x y H Q ∨ r' x y H Q) : Op2 C (fun x y H Q => r x y H Q ∨ r' x y H Q) g := h
section
variable {X : Cx} {W : WX} {pos : Pos} {a b c : Expr} {ma mb mc : EM}
theorem e_bin {op : Operator} {r : R2} {g : AV → AV → AH → Res AV} (ho : OpR X (binaryOp op) r) (hg : Op2 (cm X) r g) (ha : PE X a (tE (cm X) W ma)) (hb : PE X b (tE (cm X) W mb)) : PE X (.BinOp a op b pos) (tE (cm X) W (mBin g ma mb)) :=
  PE.imp (pe_op ho ha hb) fun _ _ _ h => bin2 hg h
theorem e_cmp {op : CmpOp} {r : R2} {g : AV → AV → AH → Res AV} (ho : OpR X (compareOp op) r) (hm : behindInMarks op b = false) (hg : Op2 (cm X) r g) (ha : PE X a (tE (cm X) W ma)) (hb : PE X b (tE (cm X) W mb)) : PE X (.Compare a [op] [b] pos) (tE (cm X) W (mBin g ma mb)) :=
  PE.imp (pe_cmpR ho ha hb hm) fun _ _ _ h => bin2 hg h
theorem e_un {op : UnaryOp} {r : V → Hp → VK → Prop} {g : AV → AH → Res AV} (ho : UnR X (unaryOp op) r) (hg : Op1 (cm X) r g) (ha : PE X a (tE (cm X) W ma)) : PE X (.UnaryOp op a pos) (tE (cm X) W (mUn g ma)) :=
  PE.imp (pe_un ho ha) fun _ _ _ h => un1 hg h

/-! ### tests -/
def mBl (m : EM) : BM := fun G M => (m G M).bind fun a M1 => match a with
  | .bl b => .ok b M1
  | _ => .stuck
/-- a value that is True or False, as a test -/
theorem bl_of {C : Cm} {m : EM} {σ : St} {H : Hp} {Q : Bool → Hp → Prop} (h : tB' C W (mBl m) σ H Q) : tE C W m σ H (fun x H' => ∃ k, x = .bl k ∧ Q k H') := by
  have h1 := tM.bind (R := RV C) (m := m) (f := fun G a M1 => match a with | AV.bl b => Res.ok b M1 | _ => .stuck) h
  refine tM.imp h1 fun x H1 ⟨j, G, a, M, s, r, rr, p⟩ => ?_
  cases a with
  | bl b =>
    cases rr
    exact ⟨b, rfl, p.now s rfl⟩
  | _ => exact p.elim
theorem t_cmp {op : CmpOp} {r : R2} {g : AV → AV → AH → Res AV} (ho : OpR X (compareOp op) r) (hm : behindInMarks op b = false) (hg : Op2 (cm X) r g) (ha : PE X a (tE (cm X) W ma)) (hb : PE X b (tE (cm X) W mb)) : PT X (.Compare a [op] [b] pos) (tB' (cm X) W (mBl (mBin g ma mb))) :=
  PT.imp (pt_cmpR ho ha hb hm) fun _ _ _ h => bin2 hg (bl_of h)
def aTru (a : AV) (M : AH) : Res Bool := match a with
  | .non => .ok false M
  | .bl b => .ok b M
  | .int i => .ok (i != 0) M
  | .str x => if x.length ≤ 16777216 then .ok (x.length != 0) M else .stuck
  | .tup xs => .ok (!xs.isEmpty) M
  | .lst xs => .ok (!xs.isEmpty) M
  | .fro xs => .ok (!xs.isEmpty) M
  | .tuc xs => .ok (!xs.isEmpty) M
  | .ref n => match M.objs[n]? with
    | some (.lst xs) => .ok (!xs.isEmpty) M
    | _ => .stuck
  | _ => .stuck
theorem VRs.len {K : PySem.W.Frag} {i : Ix} {H : Hp} : ∀ {vs : List V} {as : List AV}, VRs K i H vs as → vs.length = as.length
  | _, _, .nil => rfl
  | _, _, .cons _ t => by rw [List.length_cons, List.length_cons, VRs.len t]
theorem VRs.emp {K : PySem.W.Frag} {i : Ix} {H : Hp} {vs : List V} {as : List AV} (r : VRs K i H vs as) : vs.isEmpty = as.isEmpty := by
  cases r <;> rfl
theorem sq_of {K : PySem.W.Frag} {H : Hp} {p : Addr} {xs : List V} (h : H p = some (.tup xs)) : SqT K H p xs := .inl (.inl h)
theorem sl_of {K : PySem.W.Frag} {i : Ix} {H : Hp} {p : Addr} {xs : List V} (h : (Rd H p (.lst xs) ∧ p ∉ i) ∨ KL K p xs) : SqL K H p xs := by
  rcases h with h | h
  · exact .inl h.1
  · exact .inr h
theorem tru {C : Cm} {m : EM} {σ : St} {H : Hp} {Q : Bool → Hp → Prop} (h : tB' C W (fun G M => (m G M).bind fun a M1 => aTru a M1) σ H Q) : tE C W m σ H (fun x H' => ∃ k, TruV C.K x H' k ∧ Q k H') := by
  have h1 := tM.bind (R := RV C) (m := m) (f := fun G a M1 => aTru a M1) h
  refine tM.imp h1 fun x H1 ⟨j, G, a, M, s, r, rr, p⟩ => ?_
  have hs : sizeLine = 16777216 := sizeLine_eq
  cases rr with
  | non => exact ⟨false, rfl, p.now s rfl⟩
  | bl b => exact ⟨b, rfl, p.now s rfl⟩
  | int k => exact ⟨k != 0, rfl, p.now s rfl⟩
  | str x =>
    by_cases hx : x.length ≤ 16777216
    · simp only [aTru, if_pos hx] at p
      refine ⟨x.length != 0, ⟨by rw [hs]; exact hx, ?_⟩, p.now s rfl⟩
      cases e : x.length with
      | zero => rfl
      | succ n =>
        show (n + 1 != 0) = (((n + 1 : Nat) : Int) != 0)
        have h1 : (n + 1 != 0) = true := by simp
        have h2 : (((n + 1 : Nat) : Int) != 0) = true := by
          rw [bne_iff_ne]
          omega
        rw [h1, h2]
    · simp only [aTru, if_neg hx] at p
      exact p.elim
  | tup h1 _ h2 => exact ⟨_, .inr (.inl ⟨_, .inl (.inl h1), rfl⟩), by rw [h2.emp]; exact p.now s rfl⟩
  | lst h1 _ h2 => exact ⟨_, .inl ⟨_, .inl (.inl h1), rfl⟩, by rw [h2.emp]; exact p.now s rfl⟩
  | fro h1 h2 => exact ⟨_, .inl ⟨_, sl_of h1, rfl⟩, by rw [h2.emp]; exact p.now s rfl⟩
  | tuc h1 h2 => exact ⟨_, .inr (.inl ⟨_, h1.sq, rfl⟩), by rw [h2.emp]; exact p.now s rfl⟩
  | ref hn =>
    obtain ⟨c, hc, ho⟩ := s.get hn
    simp only [aTru, hc] at p
    cases ho with
    | lst h1 h2 => exact ⟨_, .inl ⟨_, .inl (.inl h1), rfl⟩, by rw [h2.emp]; exact p.now s rfl⟩
    | dK _ _ => exact p.elim
    | dT _ _ => exact p.elim
def mTru (m : EM) : BM := fun G M => (m G M).bind fun a M1 => aTru a M1
theorem t_tru (ha : PE X a (tE (cm X) W ma)) (he : ∀ whole, isTrue a X.env whole = (do let v ← whole; standAt a.pos; holding [v] (truthy v)) := by intro _; rfl) : PT X a (tB' (cm X) W (mTru ma)) :=
  PT.imp (pt_truth ha he) fun _ _ _ h => tru h
def mAnd (m n : BM) : BM := fun G M => (m G M).bind fun c M1 => if c = true then n G M1 else .ok false M1
def mOr (m n : BM) : BM := fun G M => (m G M).bind fun c M1 => if c = true then .ok true M1 else n G M1
def mNot (m : BM) : BM := fun G M => (m G M).bind fun c M1 => .ok (!c) M1
variable {na nb : BM} {rest : List Expr}
theorem t_and1 (ha : PT X a (tB' (cm X) W na)) : PW X (.BoolOp .And [a] pos) (tB' (cm X) W na) := pw_and1 ha
theorem t_or1 (ha : PT X a (tB' (cm X) W na)) : PW X (.BoolOp .Or [a] pos) (tB' (cm X) W na) := pw_or1 ha
theorem t_and (ha : PT X a (tB' (cm X) W na)) (hb : PW X (.BoolOp .And (b :: rest) pos) (tB' (cm X) W nb)) : PW X (.BoolOp .And (a :: b :: rest) pos) (tB' (cm X) W (mAnd na nb)) :=
  PW.imp (pw_and ha hb) fun σ H Q h => by
    have h1 := tM.bind (R := RB) (m := na) (f := fun G c M1 => if c = true then nb G M1 else .ok false M1) h
    refine tM.imp h1 fun c H1 ⟨j, G, k, M, s, r, rr, p⟩ => ?_
    cases rr
    cases c with
    | true => exact ⟨j, G, M, s, r, p⟩
    | false => exact p.now s rfl
theorem t_or (ha : PT X a (tB' (cm X) W na)) (hb : PW X (.BoolOp .Or (b :: rest) pos) (tB' (cm X) W nb)) : PW X (.BoolOp .Or (a :: b :: rest) pos) (tB' (cm X) W (mOr na nb)) :=
  PW.imp (pw_or ha hb) fun σ H Q h => by
    have h1 := tM.bind (R := RB) (m := na) (f := fun G c M1 => if c = true then .ok true M1 else nb G M1) h
    refine tM.imp h1 fun c H1 ⟨j, G, k, M, s, r, rr, p⟩ => ?_
    cases rr
    cases c with
    | false => exact ⟨j, G, M, s, r, p⟩
    | true => exact p.now s rfl
theorem t_not (ha : PT X a (tB' (cm X) W na)) : PT X (.UnaryOp .Not a pos) (tB' (cm X) W (mNot na)) :=
  PT.imp (pt_not ha) fun σ H Q h => by
    have h1 := tM.bind (R := RB) (m := na) (f := fun G c M1 => .ok (!c) M1) h
    exact tM.imp h1 fun c H1 ⟨j, G, k, M, s, r, rr, p⟩ => by
      cases rr
      exact p.now s rfl

/-! ### a if t else b; and, or, not as values (truths) -/
def mIfE (t : BM) (m n : EM) : EM := fun G M => (t G M).bind fun c M1 => if c = true then m G M1 else n G M1
theorem e_ifE (hc : PT X c (tB' (cm X) W na)) (ha : PE X a (tE (cm X) W ma)) (hb : PE X b (tE (cm X) W mb)) : PE X (.IfExp c a b pos) (tE (cm X) W (mIfE na ma mb)) :=
  PE.imp (pe_ifExp hc ha hb) fun σ H Q h => by
    have h1 := tM.bind (R := RB) (m := na) (f := fun G c M1 => if c = true then ma G M1 else mb G M1) h
    refine tM.imp h1 fun c H1 ⟨j, G, k, M, s, r, rr, p⟩ => ?_
    cases rr
    cases c with
    | true => exact ⟨j, G, M, s, r, p⟩
    | false => exact ⟨j, G, M, s, r, p⟩
def mAndV (m n : EM) : EM := fun G M => (m G M).bind fun a M1 => match a with
  | .bl c => if c = true then n G M1 else .ok (.bl false) M1
  | _ => .stuck
def mOrV (m n : EM) : EM := fun G M => (m G M).bind fun a M1 => match a with
  | .bl c => if c = true then .ok (.bl true) M1 else n G M1
  | _ => .stuck
def mNotV (m : EM) : EM := fun G M => (m G M).bind fun a M1 => match a with
  | .bl c => .ok (.bl (!c)) M1
  | _ => .stuck
theorem e_one {op : BoolOp} (ha : PE X a (tE (cm X) W ma)) : PE X (.BoolOp op [a] pos) (tE (cm X) W ma) := pe_one ha
theorem e_and (ha : PE X a (tE (cm X) W ma)) (hb : PE X (.BoolOp .And (b :: rest) pos) (tE (cm X) W mb)) : PE X (.BoolOp .And (a :: b :: rest) pos) (tE (cm X) W (mAndV ma mb)) :=
  PE.imp (pe_and ha hb) fun σ H Q h => by
    have h1 := tM.bind (R := RV (cm X)) (m := ma) (f := fun G a M1 => match a with | AV.bl c => if c = true then mb G M1 else Res.ok (AV.bl false) M1 | _ => .stuck) h
    refine tM.imp h1 fun x H1 ⟨j, G, k, M, s, r, rr, p⟩ => ?_
    cases k with
    | bl c =>
      cases rr
      refine ⟨c, rfl, ?_⟩
      cases c with
      | true => exact ⟨j, G, M, s, r, p⟩
      | false => exact p.now s (.bl false)
    | _ => exact p.elim
theorem e_or (ha : PE X a (tE (cm X) W ma)) (hb : PE X (.BoolOp .Or (b :: rest) pos) (tE (cm X) W mb)) : PE X (.BoolOp .Or (a :: b :: rest) pos) (tE (cm X) W (mOrV ma mb)) :=
  PE.imp (pe_or ha hb) fun σ H Q h => by
    have h1 := tM.bind (R := RV (cm X)) (m := ma) (f := fun G a M1 => match a with | AV.bl c => if c = true then Res.ok (AV.bl true) M1 else mb G M1 | _ => .stuck) h
    refine tM.imp h1 fun x H1 ⟨j, G, k, M, s, r, rr, p⟩ => ?_
    cases k with
    | bl c =>
      cases rr
      refine ⟨c, rfl, ?_⟩
      cases c with
      | false => exact ⟨j, G, M, s, r, p⟩
      | true => exact p.now s (.bl true)
    | _ => exact p.elim
theorem e_not (ha : PE X a (tE (cm X) W ma)) : PE X (.UnaryOp .Not a pos) (tE (cm X) W (mNotV ma)) :=
  PE.imp (pe_not ha) fun σ H Q h => by
    have h1 := tM.bind (R := RV (cm X)) (m := ma) (f := fun G a M1 => match a with | AV.bl c => Res.ok (AV.bl (!c)) M1 | _ => .stuck) h
    refine tM.imp h1 fun x H1 ⟨j, G, k, M, s, r, rr, p⟩ => ?_
    cases k with
    | bl c =>
      cases rr
      exact ⟨c, rfl, p.now s (.bl (!c))⟩
    | _ => exact p.elim
end

/-! ### argument lists, displays, calls by values -/
def mNil : AM := fun _ M => .ok [] M
def mCons (m : EM) (n : AM) : AM := fun G M => (m G M).bind fun a M1 => (n G M1).bind fun as M2 => .ok (a :: as) M2
section
variable {X : Cx} {W : WX} {pos : Pos} {e : Expr} {es : List Expr} {m : EM} {n : AM}
theorem a_nil : PA X [] (tA (cm X) W mNil) := PA.imp pa_nil fun σ H Q ⟨i, G, M, s, r, p⟩ => p.now s .nil
theorem a_cons (he : PE X e (tE (cm X) W m)) (hr : PA X es (tA (cm X) W n)) (hs : starEach (e :: es) X.env = (false, eval e X.env) :: starEach es X.env := by rfl) : PA X (e :: es) (tA (cm X) W (mCons m n)) :=
  PA.imp (pa_cons he hr hs) fun σ H Q h => by
    have h1 := tM.bind (R := RV (cm X)) (m := m) (f := fun G a M1 => (n G M1).bind fun as M2 => .ok (a :: as) M2) h
    refine tM.imp h1 fun x H1 ⟨j, G, a, M, s, r, rr, p⟩ => ?_
    exact ⟨j, G, M, s, r, (post.bind (R := RVs (cm X)) p).imp (fun xs H2 ⟨k, as, M2, e2, s2, rs, p2⟩ => p2.now s2 (.cons (rr.mono e2) rs)) fun _ _ _ z => z⟩
/-- a call of what is known, by values -/
def mCall (g : List AV → AH → Res AV) (n : AM) : EM := fun G M => (n G M).bind fun as M1 => g as M1
def OpC (C : Cm) (r : List V → Hp → VK → Prop) (g : List AV → AH → Res AV) : Prop := ∀ i M H xs as Q W, Sim C.K i M H → VRs C.K i H xs as → post C (RV C) i H (g as M) Q W → r xs H Q
theorem call1 {C : Cm} {r : List V → Hp → VK → Prop} {g : List AV → AH → Res AV} {σ : St} {H : Hp} {Q : VK} (hg : OpC C r g) (h : tE C W (mCall g n) σ H Q) : tCB r (tA C W n) σ H Q := by
  have h1 := tM.bind (R := RVs C) (m := n) (f := fun G as M1 => g as M1) h
  exact tM.imp h1 fun xs H1 ⟨j, G, as, M, s, r, rr, p⟩ => hg j M H1 xs as Q _ s rr p
/-- a size that the model asks -/
def sized {α : Type} (n : Nat) (r : Res α) : Res α := if n ≤ 16777216 then r else .stuck
theorem sized_ok {α : Type} {n : Nat} {r : Res α} (h : n ≤ 16777216) : sized n r = r := if_pos h
theorem post.sized {α β : Type} {C : Cm} {R : Ix → Hp → β → α → Prop} {i : Ix} {H : Hp} {n : Nat} {r : Res α} {Q : β → Hp → Prop} {W : XK} (h : post C R i H (sized n r) Q W) : n ≤ sizeLine ∧ post C R i H r Q W := by
  by_cases hl : n ≤ 16777216
  · rw [sized_ok hl] at h
    exact ⟨by rw [sizeLine_eq]; exact hl, h⟩
  · have e : Mx.sized n r = .stuck := if_neg hl
    rw [e] at h
    exact h.elim
def gTupD : List AV → AH → Res AV := fun as M => sized as.length (.ok (.tup as) M)
def gLstD : List AV → AH → Res AV := fun as M => sized as.length (.ok (.lst as) M)
/-- a new list that may be changed: it gets a number -/
def gLstR : List AV → AH → Res AV := fun as M => sized as.length (.ok (.ref M.objs.length) ⟨M.objs ++ [.lst as], M.fz⟩)
/-- what a new object is worth -/
theorem new_tup {C : Cm} {i : Ix} {M : AH} {H : Hp} {xs : List V} {as : List AV} {Q : VK} {W : XK} (s : Sim C.K i M H) (r : VRs C.K i H xs as) (p : post C (RV C) i H (.ok (.tup as) M) Q W) : ∀ a, H a = none → Q (.ref a) (upd H a (.tup xs)) :=
  fun a ha => p _ i _ (Ext.fresh ha) (s.fresh ha) (.tup upd_same (s.notin ha) (r.mono (Ext.fresh ha)))
theorem new_lst {C : Cm} {i : Ix} {M : AH} {H : Hp} {xs : List V} {as : List AV} {Q : VK} {W : XK} (s : Sim C.K i M H) (r : VRs C.K i H xs as) (p : post C (RV C) i H (.ok (.lst as) M) Q W) : ∀ a, H a = none → Q (.ref a) (upd H a (.lst xs)) :=
  fun a ha => p _ i _ (Ext.fresh ha) (s.fresh ha) (.lst upd_same (s.notin ha) (r.mono (Ext.fresh ha)))
theorem new_lstR {C : Cm} {i : Ix} {M : AH} {H : Hp} {xs : List V} {as : List AV} {Q : VK} {W : XK} (s : Sim C.K i M H) (r : VRs C.K i H xs as) (p : post C (RV C) i H (.ok (.ref M.objs.length) ⟨M.objs ++ [.lst as], M.fz⟩) Q W) : ∀ a, H a = none → Q (.ref a) (upd H a (.lst xs)) :=
  fun a ha => p _ (i.push a) _ (Ext.push ha) (s.push ha (.lst upd_same (r.mono (Ext.push ha)))) (.ref (by rw [← s.len]; simp [Ix.push]))
theorem c_tup {C : Cm} : OpC C (fun xs H Q => xs.length ≤ sizeLine ∧ ∀ p, H p = none → Q (.ref p) (upd H p (.tup xs))) gTupD := fun i M H xs as Q W s r p => by
  obtain ⟨h1, h2⟩ := p.sized
  exact ⟨by rw [r.len]; exact h1, new_tup s r h2⟩
theorem c_lst {C : Cm} : OpC C (fun xs H Q => xs.length ≤ sizeLine ∧ ∀ p, H p = none → Q (.ref p) (upd H p (.lst xs))) gLstD := fun i M H xs as Q W s r p => by
  obtain ⟨h1, h2⟩ := p.sized
  exact ⟨by rw [r.len]; exact h1, new_lst s r h2⟩
theorem c_lstR {C : Cm} : OpC C (fun xs H Q => xs.length ≤ sizeLine ∧ ∀ p, H p = none → Q (.ref p) (upd H p (.lst xs))) gLstR := fun i M H xs as Q W s r p => by
  obtain ⟨h1, h2⟩ := p.sized
  exact ⟨by rw [r.len]; exact h1, new_lstR s r h2⟩
abbrev mTup (n : AM) : EM := mCall gTupD n
abbrev mLst (n : AM) : EM := mCall gLstD n
abbrev mLstR (n : AM) : EM := mCall gLstR n
theorem e_tup {k : Nat} (h : PA X es (tA (cm X) W n)) : PE X (.Tuple es k pos) (tE (cm X) W (mTup n)) := PE.imp (pe_tup h) fun σ H Q h => call1 c_tup h
theorem e_lst (h : PA X es (tA (cm X) W n)) : PE X (.List es pos) (tE (cm X) W (mLst n)) := PE.imp (pe_lst h) fun σ H Q h => call1 c_lst h
theorem e_lstR (h : PA X es (tA (cm X) W n)) : PE X (.List es pos) (tE (cm X) W (mLstR n)) := PE.imp (pe_lst h) fun σ H Q h => call1 c_lstR h
theorem e_callB {x : Str} {id : String} {p : Pos} {r : List V → Hp → VK → Prop} {g : List AV → AH → Res AV} (hc : CallR X (.builtin id) r) (hg : OpC (cm X) r g) (hgl : Gl X x) (hm : X.mg x = none) (hv : bootBuiltins x = some (.builtin id)) (ha : PA X (e :: es) (tA (cm X) W n))
    (hn : x ≠ "__name__" := by decide) (hd : (x == ("__debug__" : Str)) = false := by decide) (he : starEach (e :: es) X.env = (false, eval e X.env) :: starEach es X.env := by rfl) (hpl : (backTo pos (starEach es X.env)).any (·.1) = false := by rfl) : PE X (.Call (.Name x p) (e :: es) [] pos) (tE (cm X) W (mCall g n)) :=
  PE.imp (pe_callB hc hgl hm hv ha hn hd he hpl) fun σ H Q h => call1 hg h
theorem e_callTy {x : Str} {T : String} {p : Pos} {r : List V → Hp → VK → Prop} {g : List AV → AH → Res AV} (hc : CallR X (.type T) r) (hg : OpC (cm X) r g) (hgl : Gl X x) (hm : X.mg x = none) (hv : bootBuiltins x = some (.type T)) (ha : PA X (e :: es) (tA (cm X) W n))
    (hn : x ≠ "__name__" := by decide) (hd : (x == ("__debug__" : Str)) = false := by decide) (he : starEach (e :: es) X.env = (false, eval e X.env) :: starEach es X.env := by rfl) (hpl : (backTo pos (starEach es X.env)).any (·.1) = false := by rfl) : PE X (.Call (.Name x p) (e :: es) [] pos) (tE (cm X) W (mCall g n)) :=
  PE.imp (pe_callTy hc hgl hm hv ha hn hd he hpl) fun σ H Q h => call1 hg h
end
end Mx

/-! Mx3: equality of plain data (no dict, no number in it; at most so deep). -/
namespace Mx
open PySem L2

mutual
def toD : AV → PyData
  | .non => .none
  | .bl b => .bool b
  | .int i => .int i
  | .str x => .str x
  | .tup xs => .tuple (toDs xs)
  | .lst xs => .list (toDs xs)
  | .fro xs => .list (toDs xs)
  | .tuc xs => .tuple (toDs xs)
  | .dK _ => .none
  | .dT _ => .none
  | .ref _ => .none
def toDs : List AV → List PyData
  | [] => []
  | x :: xs => toD x :: toDs xs
end
theorem toDs_map : ∀ xs : List AV, toDs xs = xs.map toD
  | [] => rfl
  | x :: xs => by rw [toDs, toDs_map xs, List.map_cons]
/-- no dict, no number within, at most n deep -/
def plain : Nat → AV → Bool
  | _, .non => true
  | _, .bl _ => true
  | _, .int _ => true
  | _, .str _ => true
  | n + 1, .tup xs => xs.all (plain n)
  | n + 1, .lst xs => xs.all (plain n)
  | n + 1, .fro xs => xs.all (plain n)
  | n + 1, .tuc xs => xs.all (plain n)
  | _, _ => false
def pdl : Nat → PyData → Bool
  | _, .none => true
  | _, .bool _ => true
  | _, .int _ => true
  | _, .str _ => true
  | n + 1, .list xs => xs.all (pdl n)
  | n + 1, .tuple xs => xs.all (pdl n)
  | _, _ => false
theorem pdl_of : ∀ (n : Nat) (a : AV), plain n a = true → pdl n (toD a) = true
  | n, .non, _ => by cases n <;> rfl
  | n, .bl _, _ => by cases n <;> rfl
  | n, .int _, _ => by cases n <;> rfl
  | n, .str _, _ => by cases n <;> rfl
  | 0, .tup xs, h => by cases h
  | 0, .lst xs, h => by cases h
  | 0, .fro xs, h => by cases h
  | 0, .tuc xs, h => by cases h
  | n + 1, .tup xs, h => by
    have h' : xs.all (plain n) = true := h
    show (toDs xs).all (pdl n) = true
    rw [toDs_map, List.all_map, List.all_eq_true]
    exact fun x hx => pdl_of n x (List.all_eq_true.mp h' x hx)
  | n + 1, .lst xs, h => by
    have h' : xs.all (plain n) = true := h
    show (toDs xs).all (pdl n) = true
    rw [toDs_map, List.all_map, List.all_eq_true]
    exact fun x hx => pdl_of n x (List.all_eq_true.mp h' x hx)
  | n + 1, .fro xs, h => by
    have h' : xs.all (plain n) = true := h
    show (toDs xs).all (pdl n) = true
    rw [toDs_map, List.all_map, List.all_eq_true]
    exact fun x hx => pdl_of n x (List.all_eq_true.mp h' x hx)
  | n + 1, .tuc xs, h => by
    have h' : xs.all (plain n) = true := h
    show (toDs xs).all (pdl n) = true
    rw [toDs_map, List.all_map, List.all_eq_true]
    exact fun x hx => pdl_of n x (List.all_eq_true.mp h' x hx)
  | n, .dK _, h => by cases n <;> cases h
  | n, .dT _, h => by cases n <;> cases h
  | n, .ref _, h => by cases n <;> cases h

section
variable {K : PySem.W.Frag} {i : Ix} {H : Hp}
mutual
theorem dp_of : ∀ (a : AV) (n : Nat) (v : V), plain n a = true → VR K i H v a → Dp K H v (toD a)
  | .non, _, _, _, h => by cases h; exact .non
  | .bl b, _, _, _, h => by cases h; exact .bl b
  | .int k, _, _, _, h => by cases h; exact .int k
  | .str x, _, _, _, h => by cases h; exact .str x
  | .tup as, 0, _, hp, _ => by cases hp
  | .lst as, 0, _, hp, _ => by cases hp
  | .fro as, 0, _, hp, _ => by cases hp
  | .tuc as, 0, _, hp, _ => by cases hp
  | .tup as, n + 1, _, hp, h => by
    cases h with
    | tup h1 _ h2 => exact .tup (sq_of h1) (dps_of as n _ hp h2)
  | .lst as, n + 1, _, hp, h => by
    cases h with
    | lst h1 _ h2 => exact .lst (.inl (.inl h1)) (dps_of as n _ hp h2)
  | .fro as, n + 1, _, hp, h => by
    cases h with
    | fro h1 h2 => exact .lst (sl_of h1) (dps_of as n _ hp h2)
  | .tuc as, n + 1, _, hp, h => by
    cases h with
    | tuc h1 h2 => exact .tup h1.sq (dps_of as n _ hp h2)
  | .dK _, n, _, hp, _ => by cases n <;> cases hp
  | .dT _, n, _, hp, _ => by cases n <;> cases hp
  | .ref _, n, _, hp, _ => by cases n <;> cases hp
theorem dps_of : ∀ (as : List AV) (n : Nat) (vs : List V), as.all (plain n) = true → VRs K i H vs as → DpAll K H vs (toDs as)
  | [], _, _, _, h => by cases h; exact .nil
  | a :: as, n, _, hp, h => by
    cases h with
    | cons h1 h2 =>
      rw [List.all_cons, Bool.and_eq_true] at hp
      exact .cons (dp_of a n _ hp.1 h1) (dps_of as n _ hp.2 h2)
end
end

/-! ### == over such data, at the library's level -/
open PySem.SeqAt in
theorem uniq_list {h : Heap} {p : Addr} {xs ys : List PyData} {as bs : List Addr} (a : Reads h (.ref p) (.list xs) as) (b : Reads h (.ref p) (.list ys) bs) : ∃ vs cs ds, ReadsAll h vs xs cs ∧ ReadsAll h vs ys ds := by
  cases a with
  | list a1 a2 a3 a4 =>
    cases b with
    | list b1 b2 b3 b4 =>
      rw [a1] at b1
      cases b1
      rw [a3] at b3
      injection b3 with e _
      subst e
      exact ⟨_, _, _, a4, b4⟩
theorem uniq_tuple {h : Heap} {p : Addr} {xs ys : List PyData} {as bs : List Addr} (a : Reads h (.ref p) (.tuple xs) as) (b : Reads h (.ref p) (.tuple ys) bs) : ∃ vs cs ds, ReadsAll h vs xs cs ∧ ReadsAll h vs ys ds := by
  cases a with
  | tuple a1 a2 a3 a4 =>
    cases b with
    | tuple b1 b2 b3 b4 =>
      rw [a1] at b1
      cases b1
      rw [a3] at b3
      injection b3 with e _
      subst e
      exact ⟨_, _, _, a4, b4⟩
mutual
/-- one thing is equal to itself, however it is read -/
theorem same_eqv : ∀ (x y : PyData) (n : Nat) (h : Heap) (v : Value) (as bs : List Addr), pdl n x = true → Reads h v x as → Reads h v y bs → PyData.eqv x y = true
  | .none, y, _, _, _, _, _, _, a, b => by cases a; cases b; simp [PyData.eqv]
  | .bool k, y, _, _, _, _, _, _, a, b => by cases a; cases b; simp [PyData.eqv]
  | .int k, y, _, _, _, _, _, _, a, b => by cases a; cases b; simp [PyData.eqv]
  | .str k, y, _, _, _, _, _, _, a, b => by cases a; cases b; simp [PyData.eqv]
  | .dict _, _, n, _, _, _, _, hp, _, _ => by cases n <;> cases hp
  | .list xs, _, 0, _, _, _, _, hp, _, _ => by cases hp
  | .tuple xs, _, 0, _, _, _, _, hp, _, _ => by cases hp
  | .list xs, y, n + 1, h, v, as, bs, hp, a, b => by
    cases a with
    | list a1 a2 a3 a4 =>
      cases b with
      | list b1 b2 b3 b4 =>
        obtain ⟨vs, cs, ds, r1, r2⟩ := uniq_list (.list a1 a2 a3 a4) (.list b1 b2 b3 b4)
        rw [PyData.eqv]
        exact same_eqvs xs _ n h vs _ _ hp r1 r2
      | tuple b1 b2 b3 b4 =>
        rw [a1] at b1
        cases b1
        rw [a2] at b2
        injection b2 with z
        exact absurd z (by decide)
      | dict b1 b2 =>
        rw [a1] at b1
        cases b1
        rw [a2] at b2
        injection b2 with z
        exact absurd z (by decide)
  | .tuple xs, y, n + 1, h, v, as, bs, hp, a, b => by
    cases a with
    | tuple a1 a2 a3 a4 =>
      cases b with
      | tuple b1 b2 b3 b4 =>
        obtain ⟨vs, cs, ds, r1, r2⟩ := uniq_tuple (.tuple a1 a2 a3 a4) (.tuple b1 b2 b3 b4)
        rw [PyData.eqv]
        exact same_eqvs xs _ n h vs _ _ hp r1 r2
      | list b1 b2 b3 b4 =>
        rw [a1] at b1
        cases b1
        rw [a2] at b2
        injection b2 with z
        exact absurd z (by decide)
      | dict b1 b2 =>
        rw [a1] at b1
        cases b1
        rw [a2] at b2
        injection b2 with z
        exact absurd z (by decide)
theorem same_eqvs : ∀ (xs ys : List PyData) (n : Nat) (h : Heap) (vs : List Value) (as bs : List Addr), xs.all (pdl n) = true → ReadsAll h vs xs as → ReadsAll h vs ys bs → PyData.eqvAll xs ys = true
  | [], _, _, _, _, _, _, _, a, b => by cases a; cases b; rfl
  | x :: xs, _, n, h, _, _, _, hp, a, b => by
    cases a with
    | cons a1 a2 =>
      cases b with
      | cons b1 b2 =>
        rw [List.all_cons, Bool.and_eq_true] at hp
        rw [PyData.eqvAll, same_eqv x _ n h _ _ _ hp.1 a1 b1, same_eqvs xs _ n h _ _ _ hp.2 a2 b2]
        rfl
end

section
variable {A : Around} {s : Shared}
open PySem.SeqAt
theorem in1_room {n : Nat} (h : A.units + (n + 1) < cLine) : A.in1.units + n < cLine := by
  show A.units + 1 + n < cLine
  omega
theorem all_at {α : Type} {p : α → Bool} {l : List α} (h : l.all p = true) {j : Nat} {x : α} (e : l[j]? = some x) : p x = true := List.all_eq_true.mp h x (List.mem_of_getElem? e)
theorem reads_at : ∀ {h : Heap} {vs : List Value} {ds : List PyData} {as : List Addr}, ReadsAll h vs ds as → ∀ (j : Nat) (hj : j < vs.length), ∃ d bs, ds[j]? = some d ∧ Reads h vs[j] d bs
  | _, _, _, _, .nil, j, hj => absurd hj (Nat.not_lt_zero j)
  | _, _, _, _, .cons r t, 0, _ => ⟨_, _, rfl, r⟩
  | _, _, _, _, .cons r t, j + 1, hj => by
    obtain ⟨d, bs, e, q⟩ := reads_at t j (Nat.lt_of_succ_lt_succ hj)
    exact ⟨d, bs, e, q⟩
theorem getD_of {ds : List PyData} {j : Nat} {d : PyData} (e : ds[j]? = some d) : ds.getD j .none = d := by simp [List.getD, e]
theorem eq_deep : ∀ (n : Nat) (x y : PyData) (A : Around) (s : Shared) (a b : Value) (as bs : List Addr), Reads s.heap a x as → Reads s.heap b y bs → pdl n x = true → pdl n y = true → A.units + n < cLine → EqAt A s a b (PyData.eqv x y) := by
  intro n
  induction n with
  | zero =>
    intro x y A s a b as bs ra rb hx hy hu
    cases ra with
    | none =>
      cases rb with
      | none => exact .same _
      | bool k => exact .none_bool k
      | int k u => exact .none_int k u
      | str k u => exact .none_str k u
      | list _ _ _ _ => cases hy
      | tuple _ _ _ _ => cases hy
      | dict _ _ _ _ _ => cases hy
    | bool z =>
      cases rb with
      | none => exact .bool_none z
      | bool k => exact .bool_bool z k
      | int k u => exact .bool_int z k u
      | str k u => exact .bool_str z k u
      | list _ _ _ _ => cases hy
      | tuple _ _ _ _ => cases hy
      | dict _ _ _ _ _ => cases hy
    | int z t =>
      cases rb with
      | none => exact .int_none z t
      | bool k => exact .int_bool z t k
      | int k u => exact .int_int z t k u
      | str k u => exact .int_str z t k u
      | list _ _ _ _ => cases hy
      | tuple _ _ _ _ => cases hy
      | dict _ _ _ _ _ => cases hy
    | str z t =>
      cases rb with
      | none => exact .str_none z t
      | bool k => exact .str_bool z t k
      | int k u => exact .str_int z t k u
      | str k u => exact .str_str z t k u
      | list _ _ _ _ => cases hy
      | tuple _ _ _ _ => cases hy
      | dict _ _ _ _ _ => cases hy
    | list _ _ _ _ => cases hx
    | tuple _ _ _ _ => cases hx
    | dict _ _ _ _ _ => cases hx
  | succ n ih =>
    intro x y A s a b as bs ra rb hx hy hu
    have h0 : A.units < cLine := by omega
    cases ra with
    | none =>
      cases rb with
      | none => exact .same _
      | bool k => exact .none_bool k
      | int k u => exact .none_int k u
      | str k u => exact .none_str k u
      | list b1 b2 b3 b4 => exact .none_list ⟨_, b1, b2, _, b3⟩ h0
      | tuple b1 b2 b3 b4 => exact .none_tuple ⟨_, b1, b2, _, b3⟩ h0
      | dict _ _ _ _ _ => cases hy
    | bool z =>
      cases rb with
      | none => exact .bool_none z
      | bool k => exact .bool_bool z k
      | int k u => exact .bool_int z k u
      | str k u => exact .bool_str z k u
      | list b1 b2 b3 b4 => exact .bool_list z ⟨_, b1, b2, _, b3⟩ h0
      | tuple b1 b2 b3 b4 => exact .bool_tuple z ⟨_, b1, b2, _, b3⟩ h0
      | dict _ _ _ _ _ => cases hy
    | int z t =>
      cases rb with
      | none => exact .int_none z t
      | bool k => exact .int_bool z t k
      | int k u => exact .int_int z t k u
      | str k u => exact .int_str z t k u
      | list b1 b2 b3 b4 => exact .int_list z t ⟨_, b1, b2, _, b3⟩ h0
      | tuple b1 b2 b3 b4 => exact .int_tuple z t ⟨_, b1, b2, _, b3⟩ h0
      | dict _ _ _ _ _ => cases hy
    | str z t =>
      cases rb with
      | none => exact .str_none z t
      | bool k => exact .str_bool z t k
      | int k u => exact .str_int z t k u
      | str k u => exact .str_str z t k u
      | list b1 b2 b3 b4 => exact .str_list z t ⟨_, b1, b2, _, b3⟩ h0
      | tuple b1 b2 b3 b4 => exact .str_tuple z t ⟨_, b1, b2, _, b3⟩ h0
      | dict _ _ _ _ _ => cases hy
    | @list l o vs nn xs cs a1 a2 a3 a4 =>
      have hl : s.heap.IsList l vs := ⟨_, a1, a2, _, a3⟩
      cases rb with
      | none => exact .list_none hl h0
      | bool k => exact .list_bool k hl h0
      | int k u => exact .list_int k u hl h0
      | str k u => exact .list_str k u hl h0
      | tuple b1 b2 b3 b4 => exact .list_tuple hl ⟨_, b1, b2, _, b3⟩ h0
      | dict _ _ _ _ _ => cases hy
      | @list l' o' ws mm ys ds b1 b2 b3 b4 =>
        have hm : s.heap.IsList l' ws := ⟨_, b1, b2, _, b3⟩
        by_cases same : l = l'
        · subst same
          have e : PyData.eqv (.list xs) (.list ys) = true := same_eqv _ _ (n + 1) s.heap (.ref l) _ _ hx (.list a1 a2 a3 a4) (.list b1 b2 b3 b4)
          rw [e]
          exact .same _
        · have n1 : vs.size = xs.length := by simpa using ReadsAll.length _ _ _ a4
          have n2 : ws.size = ys.length := by simpa using ReadsAll.length _ _ _ b4
          rw [PyData.eqv]
          by_cases sz : vs.size = ws.size
          · rw [← eqvAll_same_length (show xs.length = ys.length by omega), ← n1]
            refine EqAt.of_refs same (RcAt.lists hl hm sz h0 fun j j1 j2 => ?_)
            obtain ⟨d, u1, e1, q1⟩ := reads_at a4 j (by simpa using j1)
            obtain ⟨d', u2, e2, q2⟩ := reads_at b4 j (by simpa using j2)
            show EqAt A.in1 s vs[j] ws[j] (PyData.eqv (xs.getD j .none) (ys.getD j .none))
            rw [getD_of e1, getD_of e2]
            exact ih d d' A.in1 s _ _ _ _ (by simpa using q1) (by simpa using q2) (all_at hx e1) (all_at hy e2) (in1_room hu)
          · rw [eqvAll_other_length (show xs.length ≠ ys.length by omega)]
            exact EqAt.of_refs same (RcAt.lists_lengths hl hm (by simpa using sz) h0)
    | @tuple l o vs nn xs cs a1 a2 a3 a4 =>
      have hl : s.heap.IsTuple l vs := ⟨_, a1, a2, _, a3⟩
      cases rb with
      | none => exact .tuple_none hl h0
      | bool k => exact .tuple_bool k hl h0
      | int k u => exact .tuple_int k u hl h0
      | str k u => exact .tuple_str k u hl h0
      | list b1 b2 b3 b4 => exact .tuple_list hl ⟨_, b1, b2, _, b3⟩ h0
      | dict _ _ _ _ _ => cases hy
      | @tuple l' o' ws mm ys ds b1 b2 b3 b4 =>
        have hm : s.heap.IsTuple l' ws := ⟨_, b1, b2, _, b3⟩
        by_cases same : l = l'
        · subst same
          have e : PyData.eqv (.tuple xs) (.tuple ys) = true := same_eqv _ _ (n + 1) s.heap (.ref l) _ _ hx (.tuple a1 a2 a3 a4) (.tuple b1 b2 b3 b4)
          rw [e]
          exact .same _
        · have n1 : vs.size = xs.length := by simpa using ReadsAll.length _ _ _ a4
          have n2 : ws.size = ys.length := by simpa using ReadsAll.length _ _ _ b4
          rw [PyData.eqv, ← eqvAll_eq xs ys, ← n1, ← n2]
          refine EqAt.of_refs same (RcAt.tuples hl hm h0 fun j j1 j2 => ?_)
          obtain ⟨d, u1, e1, q1⟩ := reads_at a4 j (by simpa using j1)
          obtain ⟨d', u2, e2, q2⟩ := reads_at b4 j (by simpa using j2)
          show EqAt A.in1 s vs[j] ws[j] (PyData.eqv (xs.getD j .none) (ys.getD j .none))
          rw [getD_of e1, getD_of e2]
          exact ih d d' A.in1 s _ _ _ _ (by simpa using q1) (by simpa using q2) (all_at hx e1) (all_at hy e2) (in1_room hu)
    | dict _ _ _ _ _ => cases hx
theorem rc_deep (n : Nat) (x y : PyData) (A : Around) (s : Shared) (a b : Value) (as bs : List Addr) (ra : Reads s.heap a x as) (rb : Reads s.heap b y bs) (hx : pdl n x = true) (hy : pdl n y = true) (hu : A.units + n < cLine) : RcAt A s a b (PyData.eqv x y) := by
  have h0 : A.units < cLine := by omega
  cases ra with
  | none =>
    cases rb with
    | none => exact .none_none
    | bool w => exact .none_bool w
    | int w u => exact .none_int w u
    | str w u => exact .none_str w u
    | list b1 b2 b3 b4 => exact .none_list ⟨_, b1, b2, _, b3⟩ h0
    | tuple b1 b2 b3 b4 => exact .none_tuple ⟨_, b1, b2, _, b3⟩ h0
    | dict _ _ _ _ _ => cases n <;> cases hy
  | bool z =>
    cases rb with
    | none => exact .bool_none z
    | bool w => exact .bool_bool z w
    | int w u => exact .bool_int z w u
    | str w u => exact .bool_str z w u
    | list b1 b2 b3 b4 => exact .bool_list z ⟨_, b1, b2, _, b3⟩ h0
    | tuple b1 b2 b3 b4 => exact .bool_tuple z ⟨_, b1, b2, _, b3⟩ h0
    | dict _ _ _ _ _ => cases n <;> cases hy
  | int z t =>
    cases rb with
    | none => exact .int_none z t
    | bool w => exact .int_bool z t w
    | int w u => exact .int_int z t w u
    | str w u => exact .int_str z t w u
    | list b1 b2 b3 b4 => exact .int_list z t ⟨_, b1, b2, _, b3⟩ h0
    | tuple b1 b2 b3 b4 => exact .int_tuple z t ⟨_, b1, b2, _, b3⟩ h0
    | dict _ _ _ _ _ => cases n <;> cases hy
  | str z t =>
    cases rb with
    | none => exact .str_none z t
    | bool w => exact .str_bool z t w
    | int w u => exact .str_int z t w u
    | str w u => exact .str_str z t w u
    | list b1 b2 b3 b4 => exact .str_list z t ⟨_, b1, b2, _, b3⟩ h0
    | tuple b1 b2 b3 b4 => exact .str_tuple z t ⟨_, b1, b2, _, b3⟩ h0
    | dict _ _ _ _ _ => cases n <;> cases hy
  | @list l o vs nn xs cs a1 a2 a3 a4 =>
    cases n with
    | zero => cases hx
    | succ n =>
      have hl : s.heap.IsList l vs := ⟨_, a1, a2, _, a3⟩
      cases rb with
      | none => exact .list_none hl h0
      | bool w => exact .list_bool w hl h0
      | int w u => exact .list_int w u hl h0
      | str w u => exact .list_str w u hl h0
      | tuple b1 b2 b3 b4 => exact .list_tuple hl ⟨_, b1, b2, _, b3⟩ h0
      | dict _ _ _ _ _ => cases hy
      | @list l' o' ws mm ys ds b1 b2 b3 b4 =>
        have hm : s.heap.IsList l' ws := ⟨_, b1, b2, _, b3⟩
        have n1 : vs.size = xs.length := by simpa using ReadsAll.length _ _ _ a4
        have n2 : ws.size = ys.length := by simpa using ReadsAll.length _ _ _ b4
        have he : ∀ (j : Nat) (j1 : j < vs.size) (j2 : j < ws.size), EqAt A.in1 s vs[j] ws[j] (pairEq xs ys j) := fun j j1 j2 => by
          obtain ⟨d, u1, e1, q1⟩ := reads_at a4 j (by simpa using j1)
          obtain ⟨d', u2, e2, q2⟩ := reads_at b4 j (by simpa using j2)
          show EqAt A.in1 s vs[j] ws[j] (PyData.eqv (xs.getD j .none) (ys.getD j .none))
          rw [getD_of e1, getD_of e2]
          exact eq_deep n d d' A.in1 s _ _ _ _ (by simpa using q1) (by simpa using q2) (all_at hx e1) (all_at hy e2) (in1_room hu)
        rw [PyData.eqv]
        by_cases sz : vs.size = ws.size
        · rw [← eqvAll_same_length (show xs.length = ys.length by omega), ← n1]
          exact RcAt.lists hl hm sz h0 he
        · rw [eqvAll_other_length (show xs.length ≠ ys.length by omega)]
          exact RcAt.lists_lengths hl hm (by simpa using sz) h0
  | @tuple l o vs nn xs cs a1 a2 a3 a4 =>
    cases n with
    | zero => cases hx
    | succ n =>
      have hl : s.heap.IsTuple l vs := ⟨_, a1, a2, _, a3⟩
      cases rb with
      | none => exact .tuple_none hl h0
      | bool w => exact .tuple_bool w hl h0
      | int w u => exact .tuple_int w u hl h0
      | str w u => exact .tuple_str w u hl h0
      | list b1 b2 b3 b4 => exact .tuple_list hl ⟨_, b1, b2, _, b3⟩ h0
      | dict _ _ _ _ _ => cases hy
      | @tuple l' o' ws mm ys ds b1 b2 b3 b4 =>
        have hm : s.heap.IsTuple l' ws := ⟨_, b1, b2, _, b3⟩
        have n1 : vs.size = xs.length := by simpa using ReadsAll.length _ _ _ a4
        have n2 : ws.size = ys.length := by simpa using ReadsAll.length _ _ _ b4
        have he : ∀ (j : Nat) (j1 : j < vs.size) (j2 : j < ws.size), EqAt A.in1 s vs[j] ws[j] (pairEq xs ys j) := fun j j1 j2 => by
          obtain ⟨d, u1, e1, q1⟩ := reads_at a4 j (by simpa using j1)
          obtain ⟨d', u2, e2, q2⟩ := reads_at b4 j (by simpa using j2)
          show EqAt A.in1 s vs[j] ws[j] (PyData.eqv (xs.getD j .none) (ys.getD j .none))
          rw [getD_of e1, getD_of e2]
          exact eq_deep n d d' A.in1 s _ _ _ _ (by simpa using q1) (by simpa using q2) (all_at hx e1) (all_at hy e2) (in1_room hu)
        rw [PyData.eqv]
        rw [← eqvAll_eq xs ys, ← n1, ← n2]
        exact RcAt.tuples hl hm h0 he
  | dict _ _ _ _ _ => cases n <;> cases hx
theorem ne_deep (n : Nat) (x y : PyData) (A : Around) (s : Shared) (a b : Value) (as bs : List Addr) (ra : Reads s.heap a x as) (rb : Reads s.heap b y bs) (hx : pdl n x = true) (hy : pdl n y = true) (hu : A.units + n < cLine) : RcNeAt A s a b (!PyData.eqv x y) := by
  have h0 : A.units < cLine := by omega
  cases ra with
  | none =>
    cases rb with
    | none => exact .none_none
    | bool w => exact .none_bool w
    | int w u => exact .none_int w u
    | str w u => exact .none_str w u
    | list b1 b2 b3 b4 => exact .none_list ⟨_, b1, b2, _, b3⟩ h0
    | tuple b1 b2 b3 b4 => exact .none_tuple ⟨_, b1, b2, _, b3⟩ h0
    | dict _ _ _ _ _ => cases n <;> cases hy
  | bool z =>
    cases rb with
    | none => exact .bool_none z
    | bool w => exact .bool_bool z w
    | int w u => exact .bool_int z w u
    | str w u => exact .bool_str z w u
    | list b1 b2 b3 b4 => exact .bool_list z ⟨_, b1, b2, _, b3⟩ h0
    | tuple b1 b2 b3 b4 => exact .bool_tuple z ⟨_, b1, b2, _, b3⟩ h0
    | dict _ _ _ _ _ => cases n <;> cases hy
  | int z t =>
    cases rb with
    | none => exact .int_none z t
    | bool w => exact .int_bool z t w
    | int w u => exact .int_int z t w u
    | str w u => exact .int_str z t w u
    | list b1 b2 b3 b4 => exact .int_list z t ⟨_, b1, b2, _, b3⟩ h0
    | tuple b1 b2 b3 b4 => exact .int_tuple z t ⟨_, b1, b2, _, b3⟩ h0
    | dict _ _ _ _ _ => cases n <;> cases hy
  | str z t =>
    cases rb with
    | none => exact .str_none z t
    | bool w => exact .str_bool z t w
    | int w u => exact .str_int z t w u
    | str w u => exact .str_str z t w u
    | list b1 b2 b3 b4 => exact .str_list z t ⟨_, b1, b2, _, b3⟩ h0
    | tuple b1 b2 b3 b4 => exact .str_tuple z t ⟨_, b1, b2, _, b3⟩ h0
    | dict _ _ _ _ _ => cases n <;> cases hy
  | @list l o vs nn xs cs a1 a2 a3 a4 =>
    cases n with
    | zero => cases hx
    | succ n =>
      have hl : s.heap.IsList l vs := ⟨_, a1, a2, _, a3⟩
      cases rb with
      | none => exact .list_none hl h0
      | bool w => exact .list_bool w hl h0
      | int w u => exact .list_int w u hl h0
      | str w u => exact .list_str w u hl h0
      | tuple b1 b2 b3 b4 => exact .list_tuple hl ⟨_, b1, b2, _, b3⟩ h0
      | dict _ _ _ _ _ => cases hy
      | @list l' o' ws mm ys ds b1 b2 b3 b4 =>
        have hm : s.heap.IsList l' ws := ⟨_, b1, b2, _, b3⟩
        have n1 : vs.size = xs.length := by simpa using ReadsAll.length _ _ _ a4
        have n2 : ws.size = ys.length := by simpa using ReadsAll.length _ _ _ b4
        have he : ∀ (j : Nat) (j1 : j < vs.size) (j2 : j < ws.size), EqAt A.in1 s vs[j] ws[j] (pairEq xs ys j) := fun j j1 j2 => by
          obtain ⟨d, u1, e1, q1⟩ := reads_at a4 j (by simpa using j1)
          obtain ⟨d', u2, e2, q2⟩ := reads_at b4 j (by simpa using j2)
          show EqAt A.in1 s vs[j] ws[j] (PyData.eqv (xs.getD j .none) (ys.getD j .none))
          rw [getD_of e1, getD_of e2]
          exact eq_deep n d d' A.in1 s _ _ _ _ (by simpa using q1) (by simpa using q2) (all_at hx e1) (all_at hy e2) (in1_room hu)
        rw [PyData.eqv]
        by_cases sz : vs.size = ws.size
        · rw [← eqvAll_same_length (show xs.length = ys.length by omega), ← n1]
          exact RcNeAt.lists hl hm sz h0 he
        · rw [eqvAll_other_length (show xs.length ≠ ys.length by omega)]
          exact RcNeAt.lists_lengths hl hm (by simpa using sz) h0
  | @tuple l o vs nn xs cs a1 a2 a3 a4 =>
    cases n with
    | zero => cases hx
    | succ n =>
      have hl : s.heap.IsTuple l vs := ⟨_, a1, a2, _, a3⟩
      cases rb with
      | none => exact .tuple_none hl h0
      | bool w => exact .tuple_bool w hl h0
      | int w u => exact .tuple_int w u hl h0
      | str w u => exact .tuple_str w u hl h0
      | list b1 b2 b3 b4 => exact .tuple_list hl ⟨_, b1, b2, _, b3⟩ h0
      | dict _ _ _ _ _ => cases hy
      | @tuple l' o' ws mm ys ds b1 b2 b3 b4 =>
        have hm : s.heap.IsTuple l' ws := ⟨_, b1, b2, _, b3⟩
        have n1 : vs.size = xs.length := by simpa using ReadsAll.length _ _ _ a4
        have n2 : ws.size = ys.length := by simpa using ReadsAll.length _ _ _ b4
        have he : ∀ (j : Nat) (j1 : j < vs.size) (j2 : j < ws.size), EqAt A.in1 s vs[j] ws[j] (pairEq xs ys j) := fun j j1 j2 => by
          obtain ⟨d, u1, e1, q1⟩ := reads_at a4 j (by simpa using j1)
          obtain ⟨d', u2, e2, q2⟩ := reads_at b4 j (by simpa using j2)
          show EqAt A.in1 s vs[j] ws[j] (PyData.eqv (xs.getD j .none) (ys.getD j .none))
          rw [getD_of e1, getD_of e2]
          exact eq_deep n d d' A.in1 s _ _ _ _ (by simpa using q1) (by simpa using q2) (all_at hx e1) (all_at hy e2) (in1_room hu)
        rw [PyData.eqv]
        rw [← eqvAll_eq xs ys, ← n1, ← n2]
        exact RcNeAt.tuples hl hm h0 he
  | dict _ _ _ _ _ => cases n <;> cases hx
end

/-! ### == and != as operators -/
/-- what stands at a number, for reading -/
def top (M : AH) : AV → AV
  | .ref n => M.objs.getD n .non
  | a => a
theorem dp_top {K : PySem.W.Frag} {i : Ix} {M : AH} {H : Hp} {v : V} {a : AV} {n : Nat} (s : Sim K i M H) (r : VR K i H v a) (h : plain n (top M a) = true) : Dp K H v (toD (top M a)) := by
  cases r with
  | @ref p k hk =>
    obtain ⟨c, hc, ho⟩ := s.get hk
    have e : top M (.ref k) = c := by simp [top, List.getD, hc]
    rw [e] at h ⊢
    cases ho with
    | lst h1 h2 =>
      cases n with
      | zero => cases h
      | succ n => exact .lst (.inl (.inl h1)) (dps_of _ n _ h h2)
    | dK _ _ => cases n <;> cases h
    | dT _ _ => cases n <;> cases h
  | non => exact dp_of (i := i) _ n _ h .non
  | bl b => exact dp_of (i := i) _ n _ h (.bl b)
  | int b => exact dp_of (i := i) _ n _ h (.int b)
  | str b => exact dp_of (i := i) _ n _ h (.str b)
  | tup h1 h2 h3 => exact dp_of (i := i) _ n _ h (.tup h1 h2 h3)
  | lst h1 h2 h3 => exact dp_of (i := i) _ n _ h (.lst h1 h2 h3)
  | fro h1 h2 => exact dp_of (i := i) _ n _ h (.fro h1 h2)
  | tuc h1 h2 => exact dp_of (i := i) _ n _ h (.tuc h1 h2)
def rEqP (K : PySem.W.Frag) : R2 := fun x y H Q => ∃ d e, Dp K H x d ∧ Dp K H y e ∧ pdl 60 d = true ∧ pdl 60 e = true ∧ Q (.bl (PyData.eqv d e)) H
def rNeP (K : PySem.W.Frag) : R2 := fun x y H Q => ∃ d e, Dp K H x d ∧ Dp K H y e ∧ pdl 60 d = true ∧ pdl 60 e = true ∧ Q (.bl (!PyData.eqv d e)) H
theorem op_eqP {X : Cx} (hu : X.A.units + 64 < cLine) : OpR X (compareOp .Eq) (rEqP X.K) := by
  intro pins s σ H x y v u Q I rx ry h
  obtain ⟨d, e, hd, he, pd, pe, q⟩ := h
  obtain ⟨as, r1⟩ := Dp.reads I d x v hd rx
  obtain ⟨bs, r2⟩ := Dp.reads I e y u he ry
  exact rc_deep 60 d e X.A s v u as bs r1 r2 pd pe (by omega) X.prog X.w X.xe _ ⟨.bl _, H, I, rfl, q⟩
theorem op_neP {X : Cx} (hu : X.A.units + 64 < cLine) : OpR X (compareOp .NotEq) (rNeP X.K) := by
  intro pins s σ H x y v u Q I rx ry h
  obtain ⟨d, e, hd, he, pd, pe, q⟩ := h
  obtain ⟨as, r1⟩ := Dp.reads I d x v hd rx
  obtain ⟨bs, r2⟩ := Dp.reads I e y u he ry
  exact ne_deep 60 d e X.A s v u as bs r1 r2 pd pe (by omega) X.prog X.w X.xe _ ⟨.bl _, H, I, rfl, q⟩
/-- == of two values (those without numbers and dicts) -/
def aeq (a b : AV) : Bool := PyData.eqv (toD a) (toD b)
def gEq : AV → AV → AH → Res AV := fun a b M => if plain 60 (top M a) && plain 60 (top M b) then .ok (.bl (aeq (top M a) (top M b))) M else .stuck
def gNe : AV → AV → AH → Res AV := fun a b M => if plain 60 (top M a) && plain 60 (top M b) then .ok (.bl (!aeq (top M a) (top M b))) M else .stuck
theorem o_eq {C : Cm} : Op2 C (rEqP C.K) gEq := fun i M H x y a b Q W s ra rb p => by
  unfold gEq at p
  by_cases h : (plain 60 (top M a) && plain 60 (top M b)) = true
  · rw [if_pos h] at p
    rw [Bool.and_eq_true] at h
    exact ⟨_, _, dp_top s ra h.1, dp_top s rb h.2, pdl_of _ _ h.1, pdl_of _ _ h.2, p.now s (.bl _)⟩
  · rw [if_neg h] at p
    exact p.elim
theorem o_ne {C : Cm} : Op2 C (rNeP C.K) gNe := fun i M H x y a b Q W s ra rb p => by
  unfold gNe at p
  by_cases h : (plain 60 (top M a) && plain 60 (top M b)) = true
  · rw [if_pos h] at p
    rw [Bool.and_eq_true] at h
    exact ⟨_, _, dp_top s ra h.1, dp_top s rb h.2, pdl_of _ _ h.1, pdl_of _ _ h.2, p.now s (.bl _)⟩
  · rw [if_neg h] at p
    exact p.elim
end Mx

/-! Mx4: what loops walk, targets, statements, for, while. -/
namespace Mx
open PySem L2
open Classical in
/-- what is walked: the items; the number of the list that must stay (where it has one) -/
structure Src where
  items : List AV
  num : Option Nat
def Src.held (S : Src) (M : AH) : Prop := match S.num with
  | none => True
  | some n => M.objs[n]? = some (.lst S.items)
structure ItOk (C : Cm) (i : Ix) (H0 : Hp) (J : It) (S : Src) : Prop where
  go : ∀ k j M H, Ext i j H0 H → Sim C.K j M H → S.held M → k < S.items.length → J.go k H
  yld : ∀ k j M H x H' a, Ext i j H0 H → Sim C.K j M H → S.held M → S.items[k]? = some a → J.yld k H x H' → Ext j j H H' ∧ Sim C.K j M H' ∧ VR C.K j H' x a
  stop : ∀ k j M H, Ext i j H0 H → Sim C.K j M H → S.held M → S.items.length ≤ k → J.stop k H
def postI (C : Cm) (i : Ix) (H : Hp) (r : Res Src) (R : It → Hp → Prop) (W : XK) : Prop := match r with
  | .ok S M => ∀ J j H', Ext i j H H' → Sim C.K j M H' → ItOk C j H' J S → R J H'
  | .exc c fs M => ∀ cls d j H', Ext i j H H' → Sim C.K j M H' → XR C j H' cls d c fs → W cls d H'
  | .stuck => False
abbrev IM := Env → AH → Res Src
def tI (C : Cm) (W : WX) (m : IM) : TI := fun σ H R => ∃ i G M, Sim C.K i M H ∧ ER C.K i H σ G ∧ postI C i H (m G M) R (fun c d H' => W c d σ H')
theorem PI.imp {X : Cx} {tg e : Expr} {t t' : TI} (h : PI X tg e t) (f : ∀ σ H R, t' σ H R → t σ H R) : PI X tg e t' := ⟨fun pins s σ H R I q => h.run pins s σ H R I (f σ H R q)⟩
theorem PI.or {X : Cx} {tg e : Expr} {t t' : TI} (h : PI X tg e t) (h' : PI X tg e t') : PI X tg e (fun σ H R => t σ H R ∨ t' σ H R) := ⟨fun pins s σ H R I q => by
  rcases q with q | q
  · exact h.run pins s σ H R I q
  · exact h'.run pins s σ H R I q⟩
theorem postI.bind {α β : Type} {C : Cm} {R : Ix → Hp → β → α → Prop} {i : Ix} {H : Hp} {r : Res α} {f : α → AH → Res Src} {Q : It → Hp → Prop} {W : XK} (h : postI C i H (r.bind f) Q W) :
    post C R i H r (fun v H1 => ∃ j a M, Ext i j H H1 ∧ Sim C.K j M H1 ∧ R j H1 v a ∧ postI C j H1 (f a M) Q W) W := by
  cases r with
  | ok a M =>
    intro v j H' e s rr
    refine ⟨j, a, M, e, s, rr, ?_⟩
    have h' : postI C i H (f a M) Q W := h
    cases q : f a M with
    | ok b M' =>
      rw [q] at h'
      intro v' k H2 e2 s2 r2
      exact h' v' k H2 (e.trans e2) s2 r2
    | exc c fs M' =>
      rw [q] at h'
      intro cls d k H2 e2 s2 x2
      exact h' cls d k H2 (e.trans e2) s2 x2
    | stuck =>
      rw [q] at h'
      exact h'
  | exc c fs M => exact h
  | stuck => exact h
theorem tI.bind {α β : Type} {C : Cm} {W : WX} {R : Ix → Hp → β → α → Prop} {m : Env → AH → Res α} {f : Env → α → AH → Res Src} {σ : St} {H : Hp} {Q : It → Hp → Prop} (h : tI C W (fun G M => (m G M).bind (f G)) σ H Q) :
    tM C W R m σ H (fun v H1 => ∃ j G a M, Sim C.K j M H1 ∧ ER C.K j H1 σ G ∧ R j H1 v a ∧ postI C j H1 (f G a M) Q (fun c d H' => W c d σ H')) := by
  obtain ⟨i, G, M, s, r, p⟩ := h
  refine ⟨i, G, M, s, r, (postI.bind (R := R) p).imp (fun v H1 ⟨j, a, M', e, s', rr, p'⟩ => ?_) fun _ _ _ z => z⟩
  exact ⟨j, G, a, M', s', r.mono e, rr, p'⟩
theorem VRs.at {K : PySem.W.Frag} {i : Ix} {H : Hp} : ∀ {vs : List V} {as : List AV} {k : Nat} {a : AV}, VRs K i H vs as → as[k]? = some a → ∃ v, vs[k]? = some v ∧ VR K i H v a
  | _, _, _, _, .nil, e => by simp at e
  | _, _, 0, _, .cons h _, e => by
    have e' := Option.some.inj e
    subst e'
    exact ⟨_, rfl, h⟩
  | _, _, k + 1, a, .cons _ t, e => by
    obtain ⟨v, h1, h2⟩ := VRs.at (k := k) (a := a) t e
    exact ⟨v, h1, h2⟩

/-! ### sources: a list, a tuple, a text, a range -/
def seqOf (M : AH) : AV → Option Src
  | .tup xs => some ⟨xs, none⟩
  | .lst xs => some ⟨xs, none⟩
  | .fro xs => some ⟨xs, none⟩
  | .tuc xs => some ⟨xs, none⟩
  | .str x => some ⟨x.cps.toList.map fun c => .str ⟨#[c]⟩, none⟩
  | .ref n => match M.objs[n]? with
    | some (.lst xs) => some ⟨xs, some n⟩
    | _ => none
  | _ => none
def mSeq (m : EM) : IM := fun G M => (m G M).bind fun a M1 => match seqOf M1 a with
  | some S => .ok S M1
  | none => .stuck
section
variable {C : Cm} {i : Ix} {M : AH} {H : Hp}
theorem it_list {a : Addr} {xs : List V} {as : List AV} (q : ∀ j H', Ext i j H H' → SqL C.K H' a xs) (r : VRs C.K i H xs as)
    (inj : ∀ H' ys, SqL C.K H' a ys → SqL C.K H' a xs → True := fun _ _ _ _ => trivial) : ItOk C i H (Itl C.K a) ⟨as, none⟩ where
  go := fun k j M H' e _ _ hk => by
    have hk' : k < xs.length := by rw [r.len]; exact hk
    exact ⟨xs, xs[k], q j H' e, List.getElem?_eq_getElem hk'⟩
  yld := fun k j M H' x H2 a' e s _ ha y => by
    obtain ⟨e1, y⟩ := y
    subst e1
    obtain ⟨v, h1, h2⟩ := r.at ha
    have hx := y xs (q j _ e)
    rw [h1] at hx
    cases hx
    exact ⟨Ext.refl, s, h2.mono e⟩
  stop := fun k j M H' e _ _ hk => ⟨xs, q j H' e, by rw [r.len]; exact hk⟩
theorem it_tup {a : Addr} {xs : List V} {as : List AV} (q : ∀ j H', Ext i j H H' → SqT C.K H' a xs) (r : VRs C.K i H xs as) : ItOk C i H (Itt C.K a) ⟨as, none⟩ where
  go := fun k j M H' e _ _ hk => by
    have hk' : k < xs.length := by rw [r.len]; exact hk
    exact ⟨xs, xs[k], q j H' e, List.getElem?_eq_getElem hk'⟩
  yld := fun k j M H' x H2 a' e s _ ha y => by
    obtain ⟨e1, y⟩ := y
    subst e1
    obtain ⟨v, h1, h2⟩ := r.at ha
    have hx := y xs (q j _ e)
    rw [h1] at hx
    cases hx
    exact ⟨Ext.refl, s, h2.mono e⟩
  stop := fun k j M H' e _ _ hk => ⟨xs, q j H' e, by rw [r.len]; exact hk⟩
theorem it_str (x : Str) : ItOk C i H (Its x) ⟨x.cps.toList.map fun c => .str ⟨#[c]⟩, none⟩ where
  go := fun k j M H' e _ _ hk => by
    show k < x.cps.size
    simpa using hk
  yld := fun k j M H' v H2 a' e s _ ha y => by
    obtain ⟨e1, c, hc, ev⟩ := y
    subst e1 ev
    rw [List.getElem?_map] at ha
    have hc' : x.cps.toList[k]? = some c := by simpa using hc
    rw [hc'] at ha
    cases ha
    exact ⟨Ext.refl, s, .str _⟩
  stop := fun k j M H' e _ _ hk => by
    show x.cps.size ≤ k
    simpa using hk
theorem it_num {n : Nat} {a : Addr} {as : List AV} (hn : i.num[n]? = some a) : ItOk C i H (Itl C.K a) ⟨as, some n⟩ := by
  have key : ∀ j M H', Ext i j H H' → Sim C.K j M H' → M.objs[n]? = some (.lst as) → ∃ xs, H' a = some (.lst xs) ∧ VRs C.K j H' xs as := fun j M H' e s hm => by
    have ho := s.obj n a _ (e.get hn) hm
    cases ho with
    | lst h1 h2 => exact ⟨_, h1, h2⟩
  refine ⟨fun k j M H' e s hm hk => ?_, fun k j M H' x H2 a' e s hm ha y => ?_, fun k j M H' e s hm hk => ?_⟩
  · obtain ⟨xs, h1, h2⟩ := key j M H' e s hm
    have hk' : k < xs.length := by rw [h2.len]; exact hk
    exact ⟨xs, xs[k], SqL.of h1, List.getElem?_eq_getElem hk'⟩
  · obtain ⟨xs, h1, h2⟩ := key j M H' e s hm
    obtain ⟨e1, y⟩ := y
    subst e1
    obtain ⟨v, h3, h4⟩ := h2.at ha
    have hx := y xs (SqL.of h1)
    rw [h3] at hx
    cases hx
    exact ⟨Ext.refl, s, h4⟩
  · obtain ⟨xs, h1, h2⟩ := key j M H' e s hm
    exact ⟨xs, SqL.of h1, by rw [h2.len]; exact hk⟩
theorem kl_ext {a : Addr} {xs : List V} (h : (Rd H a (.lst xs) ∧ a ∉ i) ∨ KL C.K a xs) : ∀ j H', Ext i j H H' → SqL C.K H' a xs := fun j H' e => by
  rcases h with ⟨h, hn⟩ | h
  · exact .inl (e.rd hn h)
  · exact .inr h
end
theorem i_seq {X : Cx} {W : WX} {tg l : Expr} {m : EM} (h : PE X l (tE (cm X) W m)) : PI X tg l (tI (cm X) W (mSeq m)) :=
  PI.imp (PI.or (pi_list h) (PI.or (pi_tup h) (pi_str h))) fun σ H R hw => by
    obtain ⟨i, G, M, s, r, p⟩ := hw
    unfold mSeq at p
    cases e : m G M with
    | stuck =>
      rw [e] at p
      exact p.elim
    | exc c fs M1 =>
      rw [e] at p
      exact .inl ⟨i, G, M, s, r, by rw [e]; exact p⟩
    | ok a M1 =>
      rw [e] at p
      have p : postI (cm X) i H (match seqOf M1 a with | some S => Res.ok S M1 | none => Res.stuck) R (fun c d H' => W c d σ H') := p
      have fin : ∀ {Q : VK}, (∀ v j H', Ext i j H H' → Sim X.K j M1 H' → VR X.K j H' v a → Q v H') → tE (cm X) W m σ H Q := fun {Q} k => ⟨i, G, M, s, r, by rw [e]; exact k⟩
      cases a with
      | tup as =>
        refine .inr (.inl (fin fun v j H' e1 s1 rv => ?_))
        cases rv with
        | tup h1 hn h2 => exact ⟨_, rfl, ⟨_, sq_of h1⟩, p _ j H' e1 s1 (it_tup (fun k H2 e2 => sq_of (e2.same hn h1)) h2)⟩
      | lst as =>
        refine .inl (fin fun v j H' e1 s1 rv => ?_)
        cases rv with
        | lst h1 hn h2 => exact ⟨_, rfl, ⟨_, SqL.of h1⟩, p _ j H' e1 s1 (it_list (fun k H2 e2 => SqL.of (e2.same hn h1)) h2)⟩
      | fro as =>
        refine .inl (fin fun v j H' e1 s1 rv => ?_)
        cases rv with
        | fro h1 h2 => exact ⟨_, rfl, ⟨_, sl_of h1⟩, p _ j H' e1 s1 (it_list (kl_ext h1) h2)⟩
      | tuc as =>
        refine .inr (.inl (fin fun v j H' e1 s1 rv => ?_))
        cases rv with
        | tuc h1 h2 => exact ⟨_, rfl, ⟨_, h1.sq⟩, p _ j H' e1 s1 (it_tup (fun k H2 e2 => (h1.mono e2).sq) h2)⟩
      | str x =>
        refine .inr (.inr (fin fun v j H' e1 s1 rv => ?_))
        cases rv
        exact ⟨x, rfl, p _ j H' e1 s1 (it_str x)⟩
      | ref n =>
        refine .inl (fin fun v j H' e1 s1 rv => ?_)
        cases rv with
        | @ref b _ hn =>
          obtain ⟨c, hc, ho⟩ := s1.get hn
          cases ho with
          | lst h1 h2 =>
            simp only [seqOf, hc] at p
            exact ⟨_, rfl, ⟨_, SqL.of h1⟩, p _ j H' e1 s1 (it_num hn)⟩
          | dK _ _ =>
            simp only [seqOf, hc] at p
            exact p.elim
          | dT _ _ =>
            simp only [seqOf, hc] at p
            exact p.elim
      | non => exact p.elim
      | bl _ => exact p.elim
      | int _ => exact p.elim
      | dK _ => exact p.elim
      | dT _ => exact p.elim

/-! ### ranges -/
def rngItems (lo : Int) (n : Nat) : List AV := (List.range n).map fun (k : Nat) => .int (lo + (k : Int))
theorem it_rng {C : Cm} {i : Ix} {H : Hp} (lo : Int) (n : Nat) : ItOk C i H (Itr lo n) ⟨rngItems lo n, none⟩ where
  go := fun k j M H' e _ _ hk => by
    show k < n
    simpa [rngItems] using hk
  yld := fun k j M H' v H2 a' e s _ ha y => by
    obtain ⟨e1, ev⟩ := y
    subst e1 ev
    have hk : k < n := by
      have q := (List.getElem?_eq_some_iff.mp ha).1
      simpa [rngItems] using q
    simp only [rngItems, List.getElem?_map, List.getElem?_range hk, Option.map_some, Option.some.injEq] at ha
    subst ha
    exact ⟨Ext.refl, s, .int _⟩
  stop := fun k j M H' e _ _ hk => by
    show n ≤ k
    simpa [rngItems] using hk
def rngOk (i : Int) : Bool := decide (-(2 ^ 62) ≤ i) && decide (i < 2 ^ 62)
def gRng (as : List AV) (M : AH) : Res Src := match as with
  | [.int n] => if rngOk n then .ok ⟨rngItems 0 n.toNat, none⟩ M else .stuck
  | [.int a, .int b] => if rngOk a && rngOk b then .ok ⟨rngItems a (b - a).toNat, none⟩ M else .stuck
  | _ => .stuck
def mRng (n : AM) : IM := fun G M => (n G M).bind fun as M1 => gRng as M1
section
variable {X : Cx} {W : WX} {tg a b : Expr} {n : AM} {p pos : Pos}
theorem i_rng1 (hg : Gl X "range") (hm : X.mg "range" = none) (ha : PA X [a] (tA (cm X) W n)) (hs : starEach [a] X.env = [(false, eval a X.env)] := by rfl) : PI X tg (.Call (.Name "range" p) [a] [] pos) (tI (cm X) W (fun G M => (n G M).bind fun as M1 => match as with
    | [x] => gRng [x] M1
    | _ => .stuck)) :=
  PI.imp (pi_range1 hg hm ha hs) fun σ H R hw => by
    have h1 := tI.bind (R := RVs (cm X)) (m := n) (f := fun G as M1 => match as with | [x] => gRng [x] M1 | _ => Res.stuck) hw
    refine tM.imp h1 fun vs H1 ⟨j, G, as, M, s, r, rr, q⟩ => ?_
    cases rr with
    | nil => exact q.elim
    | cons r1 r2 =>
      cases r2 with
      | cons _ _ => exact q.elim
      | nil =>
        cases r1 with
        | int k =>
          by_cases hk : rngOk k = true
          · simp only [gRng, hk, if_true] at q
            have hk' := hk
            simp only [rngOk, Bool.and_eq_true, decide_eq_true_eq] at hk'
            exact ⟨k, rfl, hk'.1, hk'.2, q _ j H1 Ext.refl s (it_rng 0 _)⟩
          · simp only [gRng, if_neg hk] at q
            exact q.elim
        | _ => exact q.elim
theorem i_rng2 (hg : Gl X "range") (hm : X.mg "range" = none) (ha : PA X [a, b] (tA (cm X) W n)) (hs : starEach [a, b] X.env = [(false, eval a X.env), (false, eval b X.env)] := by rfl) (hs2 : starEach [b] X.env = [(false, eval b X.env)] := by rfl) : PI X tg (.Call (.Name "range" p) [a, b] [] pos) (tI (cm X) W (fun G M => (n G M).bind fun as M1 => match as with
    | [x, y] => gRng [x, y] M1
    | _ => .stuck)) :=
  PI.imp (pi_range2 hg hm ha hs hs2) fun σ H R hw => by
    have h1 := tI.bind (R := RVs (cm X)) (m := n) (f := fun G as M1 => match as with | [x, y] => gRng [x, y] M1 | _ => Res.stuck) hw
    refine tM.imp h1 fun vs H1 ⟨j, G, as, M, s, r, rr, q⟩ => ?_
    cases rr with
    | nil => exact q.elim
    | cons r1 r2 =>
      cases r2 with
      | nil => exact q.elim
      | cons r2 r3 =>
        cases r3 with
        | cons _ _ => exact q.elim
        | nil =>
          cases r1 with
          | int k =>
            cases r2 with
            | int l =>
              by_cases hk : (rngOk k && rngOk l) = true
              · simp only [gRng, hk, if_true] at q
                have hk' := hk
                simp only [rngOk, Bool.and_eq_true, decide_eq_true_eq] at hk'
                exact ⟨k, l, rfl, ⟨hk'.1.1, hk'.1.2, hk'.2.1, hk'.2.2⟩, q _ j H1 Ext.refl s (it_rng k _)⟩
              · simp only [gRng, if_neg hk] at q
                exact q.elim
            | _ => exact q.elim
          | _ => exact q.elim
end
end Mx

/-! Mx5: targets, statements, for, while. -/
namespace Mx
open PySem L2

/-! ### targets -/
abbrev TMt := AV → Env → AH → Res Env
abbrev TMs := List AV → Env → AH → Res Env
def postG (C : Cm) (i : Ix) (H : Hp) (r : Res Env) (Q : St → Hp → Prop) : Prop := match r with
  | .ok G M => ∀ σ j H', Ext i j H H' → Sim C.K j M H' → ER C.K j H' σ G → Q σ H'
  | _ => False
def tG (C : Cm) (m : TMt) : TG := fun v σ H Q => ∃ i G M a, Sim C.K i M H ∧ ER C.K i H σ G ∧ VR C.K i H v a ∧ postG C i H (m a G M) Q
def tGs (C : Cm) (m : TMs) : TGs := fun vs σ H Q => ∃ i G M as, Sim C.K i M H ∧ ER C.K i H σ G ∧ VRs C.K i H vs as ∧ postG C i H (m as G M) Q
theorem PG.imp {X : Cx} {e : Expr} {t t' : TG} (h : PG X e t) (f : ∀ v σ H Q, t' v σ H Q → t v σ H Q) : PG X e t' := ⟨fun pins s σ H v u Q I r q => h.run pins s σ H v u Q I r (f v σ H Q q)⟩
theorem PGs.imp {X : Cx} {e : List Expr} {t t' : TGs} (h : PGs X e t) (f : ∀ v σ H Q, t' v σ H Q → t v σ H Q) : PGs X e t' := ⟨fun pins s σ H v u Q I r q => h.run pins s σ H v u Q I r (f v σ H Q q)⟩
theorem postG.bind {C : Cm} {i : Ix} {H : Hp} {r : Res Env} {f : Env → AH → Res Env} {Q : St → Hp → Prop} (h : postG C i H (r.bind f) Q) : postG C i H r (fun σ H1 => ∃ j G M, Ext i j H H1 ∧ Sim C.K j M H1 ∧ ER C.K j H1 σ G ∧ postG C j H1 (f G M) Q) := by
  cases r with
  | ok G M =>
    intro σ j H' e s r
    refine ⟨j, G, M, e, s, r, ?_⟩
    have h' : postG C i H (f G M) Q := h
    cases q : f G M with
    | ok b M' =>
      rw [q] at h'
      intro v' k H2 e2 s2 r2
      exact h' v' k H2 (e.trans e2) s2 r2
    | exc c fs M' =>
      rw [q] at h'
      exact h'.elim
    | stuck =>
      rw [q] at h'
      exact h'
  | exc c fs M => exact h
  | stuck => exact h
def gNm (n : Nat) : TMt := fun a G M => .ok (G.set n (some a)) M
def gsNil : TMs := fun as G M => match as with
  | [] => .ok G M
  | _ => .stuck
def gsCons (t : TMt) (u : TMs) : TMs := fun as G M => match as with
  | a :: r => (t a G M).bind fun G1 M1 => u r G1 M1
  | [] => .stuck
/-- a tuple's unpacking -/
def gTp (n : Nat) (u : TMs) : TMt := fun a G M => match a with
  | .tup as => if as.length = n then u as G M else .stuck
  | _ => .stuck
/-- a list's -/
def gLs (n : Nat) (u : TMs) : TMt := fun a G M => match seqOf M a, a with
  | some _, .tup _ => .stuck
  | some _, .tuc _ => .stuck
  | some _, .str _ => .stuck
  | some S, _ => if S.items.length = n then u S.items G M else .stuck
  | none, _ => .stuck
section
variable {X : Cx} {W : WX} {pos : Pos}
theorem g_name {n : Nat} {x : Str} (h : PG X (.Name x pos) (gName n)) : PG X (.Name x pos) (tG (cm X) (gNm n)) := PG.imp h fun v σ H Q ⟨i, G, M, a, s, r, rv, p⟩ => p _ i H Ext.refl s (r.set rv)
theorem gs_nil : PGs X [] (tGs (cm X) gsNil) := PGs.imp pgs_nil fun vs σ H Q ⟨i, G, M, as, s, r, rv, p⟩ => by
  cases rv with
  | nil => exact ⟨rfl, p _ i H Ext.refl s r⟩
  | cons _ _ => exact False.elim p
theorem gs_cons {e : Expr} {es : List Expr} {t : TMt} {u : TMs} (h1 : PG X e (tG (cm X) t)) (h2 : PGs X es (tGs (cm X) u))
    (hs : (assignEach (e :: es) X.env).map (·.2) = assign e X.env :: (assignEach es X.env).map (·.2) := by rfl) : PGs X (e :: es) (tGs (cm X) (gsCons t u)) := PGs.imp (pgs_cons h1 h2 hs) fun vs σ H Q ⟨i, G, M, as, s, r, rv, p⟩ => by
  cases rv with
  | nil => exact False.elim p
  | @cons v a vs' as' r1 r2 =>
    refine ⟨v, vs', rfl, i, G, M, a, s, r, r1, ?_⟩
    have p' := postG.bind p
    cases e : t a G M with
    | stuck =>
      rw [e] at p'
      exact p'
    | exc c fs M1 =>
      rw [e] at p'
      exact p'
    | ok G1 M1 =>
      rw [e] at p'
      intro σ1 j H1 e1 s1 rr1
      obtain ⟨k, G2, M2, e2, s2, r3, p2⟩ := p' σ1 j H1 e1 s1 rr1
      exact ⟨k, G2, M2, as', s2, r3, r2.mono e2, p2⟩
theorem g_tup {es : List Expr} {k : Nat} {u : TMs} {n : Nat} (hc : X.calm = true) (h : PGs X es (tGs (cm X) u)) (hn : (assignEach es X.env).length = n := by rfl) (hst : (assignEach es X.env).findIdx? (·.1) = none := by rfl) : PG X (.Tuple es k pos) (tG (cm X) (gTp n u)) :=
  PG.imp (pg_tup hc h hn hst) fun v σ H Q ⟨i, G, M, a, s, r, rv, p⟩ => by
    cases rv with
    | @tup _ _ as h1 _ h2 =>
      unfold gTp at p
      by_cases hl : as.length = n
      · simp only [hl, if_true] at p
        exact ⟨_, _, rfl, sq_of h1, by rw [h2.len]; exact hl, i, G, M, as, s, r, h2, p⟩
      · simp only [if_neg hl] at p
        exact False.elim p
    | _ => exact False.elim p
theorem g_lst {es : List Expr} {k : Nat} {u : TMs} {n : Nat} (hc : X.calm = true) (h : PGs X es (tGs (cm X) u)) (hn : (assignEach es X.env).length = n := by rfl) (hst : (assignEach es X.env).findIdx? (·.1) = none := by rfl) : PG X (.Tuple es k pos) (tG (cm X) (gLs n u)) :=
  PG.imp (pg_lst hc h hn hst) fun v σ H Q ⟨i, G, M, a, s, r, rv, p⟩ => by
    cases rv with
    | @lst _ _ as h1 hn h2 =>
      unfold gLs at p
      by_cases hl : as.length = n
      · simp only [seqOf, hl, if_true] at p
        exact ⟨_, _, rfl, SqL.of h1, by rw [h2.len]; exact hl, i, G, M, as, s, r, h2, p⟩
      · simp only [seqOf, if_neg hl] at p
        exact False.elim p
    | @fro _ _ as h1 h2 =>
      unfold gLs at p
      by_cases hl : as.length = n
      · simp only [seqOf, hl, if_true] at p
        exact ⟨_, _, rfl, sl_of h1, by rw [h2.len]; exact hl, i, G, M, as, s, r, h2, p⟩
      · simp only [seqOf, if_neg hl] at p
        exact False.elim p
    | ref hn =>
      obtain ⟨c, hc', ho⟩ := s.get hn
      unfold gLs at p
      cases ho with
      | @lst vs as h1 h2 =>
        by_cases hl : as.length = n
        · simp only [seqOf, hc', hl, if_true] at p
          exact ⟨_, _, rfl, SqL.of h1, by rw [h2.len]; exact hl, i, G, M, as, s, r, h2, p⟩
        · simp only [seqOf, hc', if_neg hl] at p
          exact False.elim p
      | dK _ _ =>
        simp only [seqOf, hc'] at p
        exact False.elim p
      | dT _ _ =>
        simp only [seqOf, hc'] at p
        exact False.elim p
    | tup _ _ _ => exact False.elim p
    | str _ => exact False.elim p
    | _ => exact False.elim p
end

/-! ### statements -/
inductive SR where
  | next (G : Env) (M : AH) | ret (a : AV) (M : AH) | brk (G : Env) (M : AH) | cnt (G : Env) (M : AH)
  | exc (c : Str) (fs : List (Str × AV)) (G : Env) (M : AH)
  | stuck
abbrev SM := Env → AH → SR
def spost (C : Cm) (W : WX) (i : Ix) (H : Hp) (r : SR) (D : Ends) : Prop := match r with
  | .next G M => ∀ σ j H', Ext i j H H' → Sim C.K j M H' → ER C.K j H' σ G → D.nx σ H'
  | .brk G M => ∀ σ j H', Ext i j H H' → Sim C.K j M H' → ER C.K j H' σ G → D.bk σ H'
  | .cnt G M => ∀ σ j H', Ext i j H H' → Sim C.K j M H' → ER C.K j H' σ G → D.ct σ H'
  | .ret a M => ∀ v j H', Ext i j H H' → Sim C.K j M H' → VR C.K j H' v a → D.rt v H'
  | .exc c fs G M => ∀ cls d σ j H', Ext i j H H' → Sim C.K j M H' → ER C.K j H' σ G → XR C j H' cls d c fs → W cls d σ H'
  | .stuck => False
def tS (C : Cm) (W : WX) (m : SM) : TS := fun D σ H => ∃ i G M, Sim C.K i M H ∧ ER C.K i H σ G ∧ spost C W i H (m G M) D
theorem spost.ext {C : Cm} {W : WX} {i j : Ix} {H H' : Hp} {r : SR} {D : Ends} (e : Ext i j H H') (h : spost C W i H r D) : spost C W j H' r D := by
  cases r with
  | next G M => exact fun σ k H2 e2 => h σ k H2 (e.trans e2)
  | brk G M => exact fun σ k H2 e2 => h σ k H2 (e.trans e2)
  | cnt G M => exact fun σ k H2 e2 => h σ k H2 (e.trans e2)
  | ret G M => exact fun σ k H2 e2 => h σ k H2 (e.trans e2)
  | exc c fs G M => exact fun cls d σ k H2 e2 => h cls d σ k H2 (e.trans e2)
  | stuck => exact h
/-- an expression's answer in a statement -/
def Res.st {α : Type} (r : Res α) (G : Env) (f : α → AH → SR) : SR := match r with
  | .ok a M => f a M
  | .exc c fs M => .exc c fs G M
  | .stuck => .stuck
@[simp] theorem Res.st_ok {α : Type} (a : α) (M : AH) (G : Env) (f : α → AH → SR) : (Res.ok a M).st G f = f a M := rfl
@[simp] theorem Res.st_exc {α : Type} (c : Str) (fs : List (Str × AV)) (M : AH) (G : Env) (f : α → AH → SR) : (Res.exc c fs M : Res α).st G f = .exc c fs G M := rfl
@[simp] theorem Res.st_stuck {α : Type} (G : Env) (f : α → AH → SR) : (Res.stuck : Res α).st G f = .stuck := rfl
/-- the first expression of a statement -/
theorem tS.st {α β : Type} {C : Cm} {W : WX} {R : Ix → Hp → β → α → Prop} {m : Env → AH → Res α} {f : Env → α → AH → SR} {σ : St} {H : Hp} {D : Ends} (h : tS C W (fun G M => (m G M).st G (f G)) D σ H) :
    tM C W R m σ H (fun v H1 => ∃ j G a M, Sim C.K j M H1 ∧ ER C.K j H1 σ G ∧ R j H1 v a ∧ spost C W j H1 (f G a M) D) := by
  obtain ⟨i, G, M, s, r, p⟩ := h
  refine ⟨i, G, M, s, r, ?_⟩
  have p : spost C W i H ((m G M).st G (f G)) D := p
  cases e : m G M with
  | ok a M1 =>
    rw [e] at p
    intro v j H' e1 s1 rr
    exact ⟨j, G, a, M1, s1, r.mono e1, rr, spost.ext e1 p⟩
  | exc c fs M1 =>
    rw [e] at p
    intro cls d j H' e1 s1 x
    exact p cls d σ j H' e1 s1 (r.mono e1) x
  | stuck =>
    rw [e] at p
    exact p
def mNext : SM := fun G M => .next G M
def mBrk : SM := fun G M => .brk G M
def mCnt : SM := fun G M => .cnt G M
def SR.seq (r : SR) (n : SM) : SR := match r with
  | .next G M => n G M
  | r => r
@[simp] theorem SR.seq_next (G : Env) (M : AH) (n : SM) : (SR.next G M).seq n = n G M := rfl
@[simp] theorem SR.seq_ret (a : AV) (M : AH) (n : SM) : (SR.ret a M).seq n = .ret a M := rfl
@[simp] theorem SR.seq_brk (G : Env) (M : AH) (n : SM) : (SR.brk G M).seq n = .brk G M := rfl
@[simp] theorem SR.seq_cnt (G : Env) (M : AH) (n : SM) : (SR.cnt G M).seq n = .cnt G M := rfl
@[simp] theorem SR.seq_exc (c : Str) (fs : List (Str × AV)) (G : Env) (M : AH) (n : SM) : (SR.exc c fs G M).seq n = .exc c fs G M := rfl
@[simp] theorem SR.seq_stuck (n : SM) : SR.stuck.seq n = .stuck := rfl
def mThen (m n : SM) : SM := fun G M => (m G M).seq n
def mExp (m : EM) : SM := fun G M => (m G M).st G fun _ M1 => .next G M1
def mRet (m : EM) : SM := fun G M => (m G M).st G fun a M1 => .ret a M1
def mRetN : SM := fun _ M => .ret .non M
def mIf (t : BM) (m n : SM) : SM := fun G M => (t G M).st G fun c M1 => if c = true then m G M1 else n G M1
def mSet (k : Nat) (m : EM) : SM := fun G M => (m G M).st G fun a M1 => .next (G.set k (some a)) M1
def mAsg (t : TMt) (m : EM) : SM := fun G M => (m G M).st G fun a M1 => match t a G M1 with
  | .ok G2 M2 => .next G2 M2
  | _ => .stuck
section
variable {X : Cx} {W : WX} {pos : Pos} {e : Expr} {st : Stmt} {rest : List Stmt} {m : EM} {n u : SM}
theorem ss_nil : PSs X [] (tS (cm X) W mNext) := PSs.imp pss_nil fun D σ H ⟨i, G, M, s, r, p⟩ => p σ i H Ext.refl s r
theorem s_pass : PS X (.Pass pos) (tS (cm X) W mNext) := PS.imp ps_pass fun D σ H ⟨i, G, M, s, r, p⟩ => p σ i H Ext.refl s r
theorem s_brk : PS X (.Break pos) (tS (cm X) W mBrk) := PS.imp ps_break fun D σ H ⟨i, G, M, s, r, p⟩ => p σ i H Ext.refl s r
theorem s_cnt : PS X (.Continue pos) (tS (cm X) W mCnt) := PS.imp ps_continue fun D σ H ⟨i, G, M, s, r, p⟩ => p σ i H Ext.refl s r
theorem ss_cons (h1 : PS X st (tS (cm X) W n)) (h2 : PSs X rest (tS (cm X) W u)) : PSs X (st :: rest) (tS (cm X) W (mThen n u)) := PSs.imp (pss_cons h1 h2) fun D σ H ⟨i, G, M, s, r, p⟩ => by
  refine ⟨i, G, M, s, r, ?_⟩
  unfold mThen at p
  cases e : n G M with
  | next G1 M1 =>
    rw [e] at p
    exact fun σ' j H' e1 s1 r1 => ⟨j, G1, M1, s1, r1, spost.ext e1 p⟩
  | ret a M1 => rw [e] at p; exact p
  | brk G1 M1 => rw [e] at p; exact p
  | cnt G1 M1 => rw [e] at p; exact p
  | exc c fs G1 M1 => rw [e] at p; exact p
  | stuck => rw [e] at p; exact p
theorem ss_one (h1 : PS X st (tS (cm X) W n)) : PSs X [st] (tS (cm X) W n) := pss_one h1
theorem s_expr (he : PE X e (tE (cm X) W m)) (hs : swapsWith e none pos.line X.env = pure false := by rfl) : PS X (.Expr e pos) (tS (cm X) W (mExp m)) := PS.imp (ps_expr he hs) fun D σ H h => by
  have h1 := tS.st (R := RV (cm X)) (m := m) (f := fun G a M1 => .next G M1) h
  exact tM.imp h1 fun v H1 ⟨j, G, a, M, s, r, rr, p⟩ => p σ j H1 Ext.refl s r
theorem s_ret (he : PE X e (tE (cm X) W m)) : PS X (.Return (some e) pos) (tS (cm X) W (mRet m)) := PS.imp (ps_ret he) fun D σ H h => by
  have h1 := tS.st (R := RV (cm X)) (m := m) (f := fun G a M1 => .ret a M1) h
  exact tM.imp h1 fun v H1 ⟨j, G, a, M, s, r, rr, p⟩ => p v j H1 Ext.refl s rr
theorem s_retN : PS X (.Return none pos) (tS (cm X) W mRetN) := PS.imp ps_retN fun D σ H ⟨i, G, M, s, r, p⟩ => p .non i H Ext.refl s .non
theorem s_if {c : Expr} {a b : List Stmt} {t : BM} (hc : PT X c (tB' (cm X) W t)) (ha : PSs X a (tS (cm X) W n)) (hb : PSs X b (tS (cm X) W u)) : PS X (.If c a b pos) (tS (cm X) W (mIf t n u)) := PS.imp (ps_if hc ha hb) fun D σ H h => by
  have h1 := tS.st (R := RB) (m := t) (f := fun G c M1 => if c = true then n G M1 else u G M1) h
  refine tM.imp h1 fun v H1 ⟨j, G, a, M, s, r, rr, p⟩ => ?_
  cases rr
  cases v with
  | true => exact ⟨j, G, M, s, r, p⟩
  | false => exact ⟨j, G, M, s, r, p⟩
theorem s_set {k : Nat} {x : Str} {p' : Pos} (h : ∀ {te : TE}, PE X e te → PS X (.Assign [.Name x p'] e pos) (tAsg te (gName k))) (he : PE X e (tE (cm X) W m)) : PS X (.Assign [.Name x p'] e pos) (tS (cm X) W (mSet k m)) := PS.imp (h he) fun D σ H h => by
  have h1 := tS.st (R := RV (cm X)) (m := m) (f := fun G a M1 => .next (G.set k (some a)) M1) h
  exact tM.imp h1 fun v H1 ⟨j, G, a, M, s, r, rr, p⟩ => p _ j H1 Ext.refl s (r.set rr)
theorem s_asg {tg : Expr} {t : TMt} (he : PE X e (tE (cm X) W m)) (hg : PG X tg (tG (cm X) t)) (hs : swapsWithSole [tg] e pos.line X.env = pure false := by rfl) (hw : swappedStores [tg] e X.env = pure none := by rfl)
    (h1 : (assignEach [tg] X.env).map (·.2) = [assign tg X.env] := by rfl) : PS X (.Assign [tg] e pos) (tS (cm X) W (mAsg t m)) := PS.imp (ps_asg he hg hs hw h1) fun D σ H h => by
  have h1 := tS.st (R := RV (cm X)) (m := m) (f := fun G a M1 => match t a G M1 with | .ok G2 M2 => .next G2 M2 | _ => .stuck) h
  refine tM.imp h1 fun v H1 ⟨j, G, a, M, s, r, rr, p⟩ => ⟨j, G, M, a, s, r, rr, ?_⟩
  cases e : t a G M with
  | ok G2 M2 =>
    rw [e] at p
    exact p
  | exc c fs M2 =>
    rw [e] at p
    exact False.elim p
  | stuck =>
    rw [e] at p
    exact False.elim p
end

/-! ### for -/
open Classical in
/-- the rest of a loop, from some item on -/
noncomputable def loop (S : Src) (t : TMt) (body : SM) : List AV → SM
  | [], G, M => if S.held M then .next G M else .stuck
  | a :: r, G, M => if S.held M then (match t a G M with
    | .ok G1 M1 => (match body G1 M1 with
      | .next G2 M2 => loop S t body r G2 M2
      | .cnt G2 M2 => loop S t body r G2 M2
      | .brk G2 M2 => .next G2 M2
      | r => r)
    | _ => .stuck) else .stuck
noncomputable def mFor (ms : IM) (t : TMt) (body : SM) : SM := fun G M => match ms G M with
  | .ok S M1 => loop S t body S.items G M1
  | .exc c fs M1 => .exc c fs G M1
  | .stuck => .stuck
section
variable {X : Cx} {W : WX} {pos : Pos}
theorem for_loop {C : Cm} {S : Src} {t : TMt} {body : SM} {tb : TS} {J : It} {D : Ends} {i0 : Ix} {H0 : Hp} (hb : ∀ D σ H, tS C W body D σ H → tb D σ H) (ok : ItOk C i0 H0 J S) :
    ∀ (k m : Nat) (σ : St) (H : Hp), (m = S.items.length - k ∧ k ≤ S.items.length ∧ ∃ i G M, Ext i0 i H0 H ∧ Sim C.K i M H ∧ ER C.K i H σ G ∧ spost C W i H (loop S t body (S.items.drop k) G M) D) →
      (J.stop k H ∧ D.nx σ H) ∨ (J.go k H ∧ ∃ N : St → Hp → Prop, (∀ σ' H', N σ' H' → ∃ m', m' < m ∧ (m' = S.items.length - (k + 1) ∧ k + 1 ≤ S.items.length ∧ ∃ i G M, Ext i0 i H0 H' ∧ Sim C.K i M H' ∧ ER C.K i H' σ' G ∧ spost C W i H' (loop S t body (S.items.drop (k + 1)) G M) D)) ∧
        ∀ x H', J.yld k H x H' → tG C t x σ H' fun σ2 H2 => tb { D with nx := N, ct := N, bk := D.nx } σ2 H2) := by
  rintro k m σ H ⟨hm, hk, i, G, M, e0, s, r, p⟩
  by_cases hlt : k < S.items.length
  · right
    have hd : S.items.drop k = S.items[k] :: S.items.drop (k + 1) := (List.getElem_cons_drop hlt).symm
    rw [hd] at p
    unfold loop at p
    by_cases hh : S.held M
    · rw [if_pos hh] at p
      refine ⟨ok.go k i M H e0 s hh hlt, fun σ' H' => ∃ i G M, Ext i0 i H0 H' ∧ Sim C.K i M H' ∧ ER C.K i H' σ' G ∧ spost C W i H' (loop S t body (S.items.drop (k + 1)) G M) D, fun σ' H' n => ⟨S.items.length - (k + 1), by omega, rfl, hlt, n⟩, fun x H' y => ?_⟩
      obtain ⟨e1, s1, rv⟩ := ok.yld k i M H x H' S.items[k] e0 s hh (List.getElem?_eq_getElem hlt) y
      refine ⟨i, G, M, S.items[k], s1, r.mono e1, rv, ?_⟩
      cases et : t S.items[k] G M with
      | stuck =>
        simp only [et] at p
        exact p
      | exc c fs M1 =>
        simp only [et] at p
        exact p
      | ok G1 M1 =>
        simp only [et] at p
        intro σ2 j H2 e2 s2 r2
        refine hb _ σ2 H2 ⟨j, G1, M1, s2, r2, ?_⟩
        have ee : Ext i j H H2 := e1.trans e2
        cases eb : body G1 M1 with
        | next G2 M2 =>
          rw [eb] at p
          exact fun σ3 l H3 e3 s3 r3 => ⟨l, G2, M2, (e0.trans ee).trans e3, s3, r3, spost.ext (ee.trans e3) p⟩
        | cnt G2 M2 =>
          rw [eb] at p
          exact fun σ3 l H3 e3 s3 r3 => ⟨l, G2, M2, (e0.trans ee).trans e3, s3, r3, spost.ext (ee.trans e3) p⟩
        | brk G2 M2 =>
          rw [eb] at p
          exact fun σ3 l H3 e3 s3 r3 => p σ3 l H3 (ee.trans e3) s3 r3
        | ret a M2 =>
          rw [eb] at p
          exact fun v l H3 e3 => p v l H3 (ee.trans e3)
        | exc c fs G2 M2 =>
          rw [eb] at p
          exact fun cls d σ3 l H3 e3 => p cls d σ3 l H3 (ee.trans e3)
        | stuck =>
          rw [eb] at p
          exact p
    · rw [if_neg hh] at p
      exact False.elim p
  · left
    have he : S.items.drop k = [] := List.drop_eq_nil_of_le (by omega)
    rw [he] at p
    unfold loop at p
    by_cases hh : S.held M
    · rw [if_pos hh] at p
      exact ⟨ok.stop k i M H e0 s hh (by omega), p σ i H Ext.refl s r⟩
    · rw [if_neg hh] at p
      exact False.elim p
theorem s_for {tg iter : Expr} {body : List Stmt} {ms : IM} {t : TMt} {b : SM} (hp : PassesOwn (model X.prog X.w) X.A X.env X.xe) (hc : X.calm = true) (hi : PI X tg iter (tI (cm X) W ms)) (hg : PG X tg (tG (cm X) t)) (hb : PSs X body (tS (cm X) W b))
    (hs : ∀ x, foldedSetIterable iter X.env x = pure x := by intro _; rfl) : PS X (.For tg iter body [] pos) (tS (cm X) W (mFor ms t b)) := PS.imp (ps_for hp hc hi hg hb hs) fun D σ H ⟨i, G, M, s, r, p⟩ => by
  refine ⟨i, G, M, s, r, ?_⟩
  unfold mFor at p
  cases e : ms G M with
  | stuck =>
    rw [e] at p
    exact p
  | exc c fs M1 =>
    rw [e] at p
    exact fun cls d j H' e1 s1 x1 => p cls d σ j H' e1 s1 (r.mono e1) x1
  | ok S M1 =>
    rw [e] at p
    intro J j H' e1 s1 ok
    refine ⟨fun k m σ H => m = S.items.length - k ∧ k ≤ S.items.length ∧ ∃ i G M, Ext j i H' H ∧ Sim X.K i M H ∧ ER X.K i H σ G ∧ spost (cm X) W i H (loop S t b (S.items.drop k) G M) D, ⟨S.items.length, by omega, Nat.zero_le _, j, G, M1, Ext.refl, s1, r.mono e1, spost.ext e1 p⟩, ?_⟩
    exact fun k m σ H hw => for_loop (fun D σ H h => h) ok k m σ H hw

/-! ### while: so many turns at most -/
def wloop (t : BM) (body : SM) : Nat → SM
  | 0, _, _ => .stuck
  | n + 1, G, M => (t G M).st G fun c M1 => if c = true then (match body G M1 with
      | .next G2 M2 => wloop t body n G2 M2
      | .cnt G2 M2 => wloop t body n G2 M2
      | .brk G2 M2 => .next G2 M2
      | r => r) else .next G M1
def mWhile (n : Nat) (t : BM) (body : SM) : SM := wloop t body n
theorem s_while {c : Expr} {body : List Stmt} {t : BM} {b : SM} (n : Nat) (hp : PassesOwn (model X.prog X.w) X.A X.env X.xe) (hc : PT X c (tB' (cm X) W t)) (hb : PSs X body (tS (cm X) W b)) : PS X (.While c body [] pos) (tS (cm X) W (mWhile n t b)) := PS.imp (ps_while hp hc hb) fun D σ H ⟨i, G, M, s, r, p⟩ => by
  refine ⟨fun k σ H => ∃ i G M, Sim X.K i M H ∧ ER X.K i H σ G ∧ spost (cm X) W i H (wloop t b k G M) D, ⟨n, i, G, M, s, r, p⟩, ?_⟩
  rintro k σ H ⟨i, G, M, s, r, p⟩
  cases k with
  | zero => exact False.elim p
  | succ k =>
    have h1 := tS.st (R := RB) (m := t) (f := fun G c M1 => if c = true then (match b G M1 with | .next G2 M2 => wloop t b k G2 M2 | .cnt G2 M2 => wloop t b k G2 M2 | .brk G2 M2 => .next G2 M2 | r => r) else .next G M1) ⟨i, G, M, s, r, p⟩
    refine tM.imp h1 fun c H1 ⟨j, G1, a, M1, s1, r1, rr, p1⟩ => ?_
    cases rr
    cases c with
    | false => exact p1 σ j H1 Ext.refl s1 r1
    | true =>
      refine ⟨fun σ' H' => ∃ i G M, Sim X.K i M H' ∧ ER X.K i H' σ' G ∧ spost (cm X) W i H' (wloop t b k G M) D, fun σ' H' h => ⟨k, Nat.lt_succ_self k, h⟩, j, G1, M1, s1, r1, ?_⟩
      have p1 : spost (cm X) W j H1 (match b G1 M1 with | .next G2 M2 => wloop t b k G2 M2 | .cnt G2 M2 => wloop t b k G2 M2 | .brk G2 M2 => .next G2 M2 | r => r) D := p1
      cases eb : b G1 M1 with
      | next G2 M2 =>
        rw [eb] at p1
        exact fun σ3 l H3 e3 s3 r3 => ⟨l, G2, M2, s3, r3, spost.ext e3 p1⟩
      | cnt G2 M2 =>
        rw [eb] at p1
        exact fun σ3 l H3 e3 s3 r3 => ⟨l, G2, M2, s3, r3, spost.ext e3 p1⟩
      | brk G2 M2 =>
        rw [eb] at p1
        exact p1
      | ret a M2 =>
        rw [eb] at p1
        exact p1
      | exc c fs G2 M2 =>
        rw [eb] at p1
        exact p1
      | stuck =>
        rw [eb] at p1
        exact p1
end
end Mx

/-! Mx6: list comprehensions. -/
namespace Mx
open PySem L2

/-! ### targets within a comprehension -/
def postGx (C : Cm) (vs : List Nat) (σ : St) (i : Ix) (H : Hp) (r : Res Env) (Q : St → Hp → Prop) : Prop := match r with
  | .ok G M => ∀ σ' j H', Ext i j H H' → Sim C.K j M H' → ER C.K j H' σ' G → wipe σ' vs = wipe σ vs → Q σ' H'
  | _ => False
def tGx (C : Cm) (vs : List Nat) (m : TMt) : TG := fun v σ H Q => ∃ i G M a, Sim C.K i M H ∧ ER C.K i H σ G ∧ VR C.K i H v a ∧ postGx C vs σ i H (m a G M) Q
def tGxs (C : Cm) (vs : List Nat) (m : TMs) : TGs := fun us σ H Q => ∃ i G M as, Sim C.K i M H ∧ ER C.K i H σ G ∧ VRs C.K i H us as ∧ postGx C vs σ i H (m as G M) Q
theorem wipe_set {n : Nat} {o : Option V} : ∀ {vs : List Nat} {σ : St}, wipe (σ.set n o) vs = if n ∈ vs then wipe σ vs else (wipe σ vs).set n o
  | [], σ => by simp [wipe]
  | v :: vs, σ => by
    unfold wipe
    rw [wipe_set (vs := vs)]
    by_cases h : n ∈ vs
    · rw [if_pos h, if_pos (List.mem_cons_of_mem _ h)]
    · rw [if_neg h]
      by_cases e : n = v
      · subst e
        rw [if_pos List.mem_cons_self, List.set_set]
      · rw [if_neg (by simp [e, h]), List.set_comm _ _ e]
def TMt.none_ : TMt := fun _ _ _ => .stuck
section
variable {X : Cx} {pos : Pos} {vs : List Nat}
theorem gx_name {n : Nat} {x : Str} (h : PG X (.Name x pos) (gName n)) (hm : n ∈ vs := by decide) : PG X (.Name x pos) (tGx (cm X) vs (gNm n)) := PG.imp h fun v σ H Q ⟨i, G, M, a, s, r, rv, p⟩ => p _ i H Ext.refl s (r.set rv) (by rw [wipe_set, if_pos hm])
theorem gxs_nil : PGs X [] (tGxs (cm X) vs gsNil) := PGs.imp pgs_nil fun us σ H Q ⟨i, G, M, as, s, r, rv, p⟩ => by
  cases rv with
  | nil => exact ⟨rfl, p _ i H Ext.refl s r rfl⟩
  | cons _ _ => exact False.elim p
theorem gxs_cons {e : Expr} {es : List Expr} {t : TMt} {u : TMs} (h1 : PG X e (tGx (cm X) vs t)) (h2 : PGs X es (tGxs (cm X) vs u))
    (hs : (assignEach (e :: es) X.env).map (·.2) = assign e X.env :: (assignEach es X.env).map (·.2) := by rfl) : PGs X (e :: es) (tGxs (cm X) vs (gsCons t u)) := PGs.imp (pgs_cons h1 h2 hs) fun us σ H Q ⟨i, G, M, as, s, r, rv, p⟩ => by
  cases rv with
  | nil => exact False.elim p
  | @cons v a vs' as' r1 r2 =>
    refine ⟨v, vs', rfl, i, G, M, a, s, r, r1, ?_⟩
    have p : postGx (cm X) vs σ i H ((t a G M).bind fun G1 M1 => u as' G1 M1) Q := p
    cases e : t a G M with
    | stuck =>
      rw [e] at p
      exact p
    | exc c fs M1 =>
      rw [e] at p
      exact p
    | ok G1 M1 =>
      rw [e] at p
      have p : postGx (cm X) vs σ i H (u as' G1 M1) Q := p
      intro σ1 j H1 e1 s1 rr1 w1
      refine ⟨j, G1, M1, as', s1, rr1, r2.mono e1, ?_⟩
      cases e2 : u as' G1 M1 with
      | stuck =>
        rw [e2] at p
        exact p
      | exc c fs M1 =>
        rw [e2] at p
        exact p
      | ok G2 M2 =>
        rw [e2] at p
        exact fun σ2 k H2 e3 s2 r3 w2 => p σ2 k H2 (e1.trans e3) s2 r3 (w2.trans w1)
theorem gx_tup {es : List Expr} {k : Nat} {u : TMs} {n : Nat} (hc : X.calm = true) (h : PGs X es (tGxs (cm X) vs u)) (hn : (assignEach es X.env).length = n := by rfl) (hst : (assignEach es X.env).findIdx? (·.1) = none := by rfl) : PG X (.Tuple es k pos) (tGx (cm X) vs (gTp n u)) :=
  PG.imp (pg_tup hc h hn hst) fun v σ H Q ⟨i, G, M, a, s, r, rv, p⟩ => by
    cases rv with
    | @tup _ _ as h1 _ h2 =>
      unfold gTp at p
      by_cases hl : as.length = n
      · simp only [hl, if_true] at p
        exact ⟨_, _, rfl, sq_of h1, by rw [h2.len]; exact hl, i, G, M, as, s, r, h2, p⟩
      · simp only [if_neg hl] at p
        exact False.elim p
    | _ => exact False.elim p
theorem ts_nil : PTs X [] (tB' (cm X) (fun _ _ _ _ => False) (fun _ M => .ok true M)) := ⟨fun pins s σ H Q I ⟨i, G, M, s', r, p⟩ => pts_nil.run pins s σ H Q I (p.now s' rfl)⟩
theorem ts_one {c : Expr} {t : BM} (h : PT X c (tB' (cm X) (fun _ _ _ _ => False) t)) : PTs X [c] (tB' (cm X) (fun _ _ _ _ => False) t) := pts_one h
end

/-! ### the comprehension -/
abbrev W0 : WX := fun _ _ _ _ => False
def wipeG (G : Env) : List Nat → Env
  | [] => G
  | v :: vs => (wipeG G vs).set v none
theorem ER.wipe {K : PySem.W.Frag} {i : Ix} {H : Hp} {σ : St} {G : Env} (r : ER K i H σ G) : ∀ vs : List Nat, ER K i H (L2.wipe σ vs) (wipeG G vs)
  | [] => r
  | v :: vs => (ER.wipe r vs).drop
open Classical in
noncomputable def lcl (S : Src) (t : TMt) (c : BM) (el : EM) (G : Env) : List AV → List AV → AH → Res (List AV)
  | [], acc, M => if S.held M then .ok acc M else .stuck
  | a :: r, acc, M => if S.held M then (match t a G M with
    | .ok G1 M1 => (match c G1 M1 with
      | .ok b M2 => if b = true then (match el G1 M2 with
        | .ok y M3 => sized (acc.length + 1) (lcl S t c el G r (acc ++ [y]) M3)
        | _ => .stuck) else lcl S t c el G r acc M2
      | _ => .stuck)
    | _ => .stuck) else .stuck
noncomputable def mLc (vs : List Nat) (ms : IM) (t : TMt) (c : BM) (el : EM) : AM := fun G M => match ms G M with
  | .ok S M1 => lcl S t c el (wipeG G vs) S.items [] M1
  | .exc d fs M1 => .exc d fs M1
  | .stuck => .stuck
theorem VRs.snoc {K : PySem.W.Frag} {i : Ix} {H : Hp} {v : V} {a : AV} (h : VR K i H v a) : ∀ {us : List V} {as : List AV}, VRs K i H us as → VRs K i H (us ++ [v]) (as ++ [a])
  | _, _, .nil => .cons h .nil
  | _, _, .cons q t => .cons q (VRs.snoc h t)
section
variable {C : Cm} {S : Src} {t : TMt} {c : BM} {el : EM} {J : It} {vs : List Nat} {σ : St} {G : Env} {i : Ix} {H1 : Hp} {D : Addr}
/-- one state within: D is the list that grows -/
structure LcAt (C : Cm) (i : Ix) (H1 : Hp) (D : Addr) (σ : St) (G : Env) (acc : List AV) (M : AH) (H : Hp) (j : Ix) : Prop where
  ext : Ext i j H1 H
  sim : Sim C.K j M H
  er : ER C.K j H σ G
  prv : D ∈ j.prv
  at' : ∃ us, H D = some (.lst us) ∧ VRs C.K j H us acc
theorem LcAt.snoc {acc : List AV} {M M' : AH} {H H' : Hp} {j k : Ix} {v : V} {a : AV} (h : LcAt C i H1 D σ G acc M H j) (hn : H1 D = none) (e : Ext j k H H') (s : Sim C.K k M' H') (rv : VR C.K k H' v a) : ∃ us, H' D = some (.lst us) ∧ us.length = acc.length ∧ LcAt C i H1 D σ G (acc ++ [a]) M' (upd H' D (.lst (us ++ [v]))) k := by
  obtain ⟨us, hd, r⟩ := h.at'
  have hD : D ∉ j.num := (h.sim.sep D h.prv).1
  have hp : D ∈ k.prv := e.prv D h.prv
  have ee : Ext i k H1 H' := h.ext.trans e
  refine ⟨us, e.keep _ _ hD hd, r.len, ⟨ee.app, ee.prv, ee.hid, ee.new, fun a u hi ha => ?_, fun a o u ha => (by
    have ne : a ≠ D := fun z => by rw [z, hn] at ha; cases ha
    rw [upd_ne ne]
    exact ee.fro a o u ha)⟩, s.hmut hp, (h.er.mono e).carry (Carry.mutp hp), hp, us ++ [v], upd_same, ((r.mono e).snoc rv).carry (Carry.mutp hp)⟩
  have ne : a ≠ D := fun z => by rw [z, hn] at ha; cases ha
  rw [upd_ne ne]
  exact ee.keep a u hi ha
theorem LcAt.skip {acc : List AV} {M M' : AH} {H H' : Hp} {j k : Ix} (h : LcAt C i H1 D σ G acc M H j) (e : Ext j k H H') (s : Sim C.K k M' H') : LcAt C i H1 D σ G acc M' H' k := by
  obtain ⟨us, hd, r⟩ := h.at'
  have hD : D ∉ j.num := (h.sim.sep D h.prv).1
  exact ⟨h.ext.trans e, s, h.er.mono e, e.prv D h.prv, us, e.keep _ _ hD hd, r.mono e⟩
theorem lc_run {Q : List AV → AH → Prop} {tt : TT} {te : TE} {g : TG} {Qd : Hp → Prop} (ok : ItOk C i H1 J S) (hn : H1 D = none)
    (ht : ∀ σ H Q, tB' C W0 c σ H Q → tt σ H Q) (he : ∀ σ H Q, tE C W0 el σ H Q → te σ H Q) (hg : ∀ v σ H Q, tGx C vs t v σ H Q → g v σ H Q) (hw : wipe (wipe σ vs) vs = wipe σ vs)
    (hd : ∀ acc M H j, LcAt C i H1 D (wipe σ vs) G acc M H j → Q acc M → Qd H) :
    ∀ (k m : Nat) (H : Hp), (m = S.items.length - k ∧ k ≤ S.items.length ∧ ∃ j acc M, LcAt C i H1 D (wipe σ vs) G acc M H j ∧ (∃ r M', lcl S t c el G (S.items.drop k) acc M = .ok r M' ∧ Q r M')) →
      (J.stop k H ∧ Qd H) ∨ (J.go k H ∧ ∃ Nx : Hp → Prop, (∀ H', Nx H' → ∃ m', m' < m ∧ (m' = S.items.length - (k + 1) ∧ k + 1 ≤ S.items.length ∧ ∃ j acc M, LcAt C i H1 D (wipe σ vs) G acc M H' j ∧ (∃ r M', lcl S t c el G (S.items.drop (k + 1)) acc M = .ok r M' ∧ Q r M'))) ∧
        ∀ x H', J.yld k H x H' → g x (wipe σ vs) H' fun σ2 H2 => wipe σ2 vs = wipe σ vs ∧ tt σ2 H2 fun b H3 =>
          if b = true then te σ2 H3 fun y H4 => ∃ acc, H4 D = some (.lst acc) ∧ acc.length < sizeLine ∧ Nx (upd H4 D (.lst (acc ++ [y]))) else Nx H3) := by
  rintro k m H ⟨hm, hk, j, acc, M, A, r, M', hr, hq⟩
  by_cases hlt : k < S.items.length
  · right
    have hdr : S.items.drop k = S.items[k] :: S.items.drop (k + 1) := (List.getElem_cons_drop hlt).symm
    rw [hdr] at hr
    unfold lcl at hr
    by_cases hh : S.held M
    · rw [if_pos hh] at hr
      refine ⟨ok.go k j M H A.ext A.sim hh hlt, fun H' => ∃ j acc M, LcAt C i H1 D (wipe σ vs) G acc M H' j ∧ (∃ r M', lcl S t c el G (S.items.drop (k + 1)) acc M = .ok r M' ∧ Q r M'), fun H' n => ⟨S.items.length - (k + 1), by omega, rfl, hlt, n⟩, fun x H' y => ?_⟩
      obtain ⟨e1, s1, rv⟩ := ok.yld k j M H x H' S.items[k] A.ext A.sim hh (List.getElem?_eq_getElem hlt) y
      refine hg _ _ _ _ ⟨j, G, M, S.items[k], s1, A.er.mono e1, rv, ?_⟩
      cases et : t S.items[k] G M with
      | stuck => simp only [et] at hr; cases hr
      | exc c fs M1 => simp only [et] at hr; cases hr
      | ok G1 M1 =>
        simp only [et] at hr
        intro σ2 j2 H2 e2 s2 r2 w2
        refine ⟨by rw [w2, hw], ht _ _ _ ⟨j2, G1, M1, s2, r2, ?_⟩⟩
        cases ec : c G1 M1 with
        | stuck => rw [ec] at hr; cases hr
        | exc c fs M2 => rw [ec] at hr; cases hr
        | ok b M2 =>
          rw [ec] at hr
          intro b' j3 H3 e3 s3 rb
          have rb' : b' = b := rb
          subst rb'
          have e123 : Ext j j3 H H3 := (e1.trans e2).trans e3
          cases b' with
          | false =>
            simp only [Bool.false_eq_true, if_false] at hr ⊢
            exact ⟨j3, acc, M2, A.skip e123 s3, r, M', hr, hq⟩
          | true =>
            simp only [if_true] at hr ⊢
            refine he _ _ _ ⟨j3, G1, M2, s3, r2.mono e3, ?_⟩
            cases ee : el G1 M2 with
            | stuck => rw [ee] at hr; cases hr
            | exc c fs M3 => rw [ee] at hr; cases hr
            | ok a M3 =>
              rw [ee] at hr
              intro v j4 H4 e4 s4 rv4
              have hr : sized (acc.length + 1) (lcl S t c el G (S.items.drop (k + 1)) (acc ++ [a]) M3) = .ok r M' := hr
              by_cases hz : acc.length + 1 ≤ 16777216
              · rw [sized_ok hz] at hr
                obtain ⟨us, h1, h2, h3⟩ := A.snoc hn (e123.trans e4) s4 rv4
                exact ⟨us, h1, by rw [h2, sizeLine_eq]; omega, j4, acc ++ [a], M3, h3, r, M', hr, hq⟩
              · have e0 : sized (acc.length + 1) (lcl S t c el G (S.items.drop (k + 1)) (acc ++ [a]) M3) = .stuck := if_neg hz
                rw [e0] at hr
                cases hr
    · rw [if_neg hh] at hr
      cases hr
  · left
    have he' : S.items.drop k = [] := List.drop_eq_nil_of_le (by omega)
    rw [he'] at hr
    unfold lcl at hr
    by_cases hh : S.held M
    · rw [if_pos hh] at hr
      cases hr
      exact ⟨ok.stop k j M H A.ext A.sim hh (by omega), hd acc M H j A hq⟩
    · rw [if_neg hh] at hr
      cases hr
end
theorem wipe_in {vs : List Nat} {σ : St} {v : Nat} (h : v ∈ vs) : (wipe σ vs).set v none = wipe σ vs := by
  induction vs with
  | nil => cases h
  | cons u us ih =>
    unfold wipe
    by_cases e : v = u
    · subst e
      rw [List.set_set]
    · rw [List.set_comm _ _ (Ne.symm e)]
      rcases List.mem_cons.mp h with z | z
      · exact absurd z e
      · rw [ih z]
theorem wipe_sub {σ : St} : ∀ {us vs : List Nat}, (∀ v ∈ us, v ∈ vs) → wipe (wipe σ vs) us = wipe σ vs
  | [], _, _ => rfl
  | u :: us, vs, h => by
    show (wipe (wipe σ vs) us).set u none = wipe σ vs
    rw [wipe_sub fun v hv => h v (List.mem_cons_of_mem _ hv)]
    exact wipe_in (h u List.mem_cons_self)
theorem wipe_wipe {σ : St} {vs : List Nat} : wipe (wipe σ vs) vs = wipe σ vs := wipe_sub fun _ h => h
def mLcV (m : AM) : EM := fun G M => (m G M).bind fun as M1 => .ok (.lst as) M1
def mLcR (m : AM) : EM := fun G M => (m G M).bind fun as M1 => .ok (.ref M1.objs.length) ⟨M1.objs ++ [.lst as], M1.fz⟩
/-- the end: the list is seen -/
theorem LcAt.val {C : Cm} {i : Ix} {H0 H1 : Hp} {D : Addr} {σ : St} {G : Env} {acc : List AV} {M : AH} {H : Hp} {j : Ix} (h : LcAt C i H1 D σ G acc M H j) (hs : ∀ a, a ∈ i.prv → H1 a ≠ none) (hn : H1 D = none) : Ext i (j.show D) H1 H ∧ Sim C.K (j.show D) M H ∧ VR C.K (j.show D) H (.ref D) (.lst acc) := by
  obtain ⟨us, hd, r⟩ := h.at'
  refine ⟨⟨h.ext.app, fun a ha => ?_, fun a ha hi => h.ext.hid a (List.mem_filter.mp ha).1 hi, h.ext.new, h.ext.keep, h.ext.fro⟩, h.sim.show, .lst hd (fun z => ?_) (r.carry Carry.show)⟩
  · refine List.mem_filter.mpr ⟨h.ext.prv a ha, decide_eq_true fun z => hs a ha (z ▸ hn)⟩
  · rcases z with z | z
    · exact (h.sim.sep D h.prv).1 z
    · exact (of_decide_eq_true (List.mem_filter.mp z).2) rfl
theorem LcAt.num {C : Cm} {i : Ix} {H1 : Hp} {D : Addr} {σ : St} {G : Env} {acc : List AV} {M : AH} {H : Hp} {j : Ix} (h : LcAt C i H1 D σ G acc M H j) (hs : ∀ a, a ∈ i.prv → H1 a ≠ none) (hn : H1 D = none) : Ext i ((j.show D).push D) H1 H ∧ Sim C.K ((j.show D).push D) ⟨M.objs ++ [.lst acc], M.fz⟩ H ∧ VR C.K ((j.show D).push D) H (.ref D) (.ref M.objs.length) := by
  obtain ⟨us, hd, r⟩ := h.at'
  have hD := (h.sim.sep D h.prv).1
  have hprv : ∀ a, a ∈ (j.show D).prv → a ≠ D := fun a ha => of_decide_eq_true (List.mem_filter.mp ha).2
  have ca : Carry j ((j.show D).push D) H H := ⟨fun n a e => by
    show (j.num ++ [D])[n]? = some a
    rw [List.getElem?_append_left (List.getElem?_eq_some_iff.mp e).1]
    exact e, fun a u hn' e => ⟨e, fun z => by
      rcases z with z | z
      · rcases List.mem_append.mp z with z | z
        · exact hn' (.inl z)
        · rw [List.mem_singleton.mp z] at hn'
          exact hn' (.inr h.prv)
      · exact hn' (.inr (List.mem_filter.mp z).1)⟩⟩
  refine ⟨⟨?_, fun a ha => ?_, fun a ha hi => h.ext.hid a (List.mem_filter.mp ha).1 hi, fun a ha hi => ?_, h.ext.keep, h.ext.fro⟩, ⟨?_, ?_, fun a ha => ⟨fun z => ?_, ?_⟩, fun n a c h1 h2 => ?_, fun a ha => h.sim.nt a (List.mem_filter.mp ha).1, fun n hn => (by
    obtain ⟨a, h1, o, u, h2⟩ := h.sim.fzl n hn
    refine ⟨a, ?_, o, u, h2⟩
    show (j.num ++ [D])[n]? = some a
    rw [List.getElem?_append_left (List.getElem?_eq_some_iff.mp h1).1]
    exact h1)⟩, .ref ?_⟩
  · obtain ⟨l, q⟩ := h.ext.app
    exact ⟨l ++ [D], by show j.num ++ [D] = _; rw [q, List.append_assoc]⟩
  · exact List.mem_filter.mpr ⟨h.ext.prv a ha, decide_eq_true fun z => hs a ha (z ▸ hn)⟩
  · rcases List.mem_append.mp ha with z | z
    · exact h.ext.new a z hi
    · rw [List.mem_singleton.mp z]
      exact hn
  · show (j.num ++ [D]).length = (M.objs ++ [_]).length
    simp [h.sim.len]
  · show (j.num ++ [D]).Nodup
    rw [List.nodup_append]
    exact ⟨h.sim.nd, by simp, fun a ha b hb z => hD (by rw [List.mem_singleton.mp hb] at z; exact z ▸ ha)⟩
  · rcases List.mem_append.mp z with z | z
    · exact (h.sim.sep a (List.mem_filter.mp ha).1).1 z
    · exact hprv a ha (List.mem_singleton.mp z)
  · exact (h.sim.sep a (List.mem_filter.mp ha).1).2
  · have h1 : (j.num ++ [D])[n]? = some a := h1
    have h2 : (M.objs ++ [AV.lst acc])[n]? = some c := h2
    by_cases hl : n < j.num.length
    · rw [List.getElem?_append_left hl] at h1
      rw [List.getElem?_append_left (by rw [← h.sim.len]; exact hl)] at h2
      exact (h.sim.obj n a c h1 h2).carry ca rfl
    · have hl2 := (List.getElem?_eq_some_iff.mp h1).1
      simp only [List.length_append, List.length_cons, List.length_nil] at hl2
      have e : n = j.num.length := by omega
      subst e
      simp at h1
      rw [h.sim.len] at h2
      simp at h2
      subst h1 h2
      exact .lst hd (r.carry ca)
  · show (j.num ++ [D])[M.objs.length]? = some D
    rw [← h.sim.len]
    simp
section
variable {X : Cx} {W : WX} {pos : Pos}
theorem lcl_exc {S : Src} {t : TMt} {c : BM} {el : EM} {G : Env} {d : Str} {fs : List (Str × AV)} {M' : AH} : ∀ (l : List AV) (acc : List AV) (M : AH), lcl S t c el G l acc M ≠ .exc d fs M'
  | [], acc, M => by
    unfold lcl
    by_cases h : S.held M
    · rw [if_pos h]
      intro z
      cases z
    · rw [if_neg h]
      intro z
      cases z
  | a :: r, acc, M => by
    unfold lcl
    by_cases h : S.held M
    · rw [if_pos h]
      cases et : t a G M with
      | stuck => intro z; cases z
      | exc _ _ _ => intro z; cases z
      | ok G1 M1 =>
        simp only
        cases ec : c G1 M1 with
        | stuck => intro z; cases z
        | exc _ _ _ => intro z; cases z
        | ok b M2 =>
          simp only
          cases b with
          | false =>
            rw [if_neg (by decide)]
            exact lcl_exc r acc M2
          | true =>
            rw [if_pos rfl]
            cases ee : el G1 M2 with
            | stuck => intro z; cases z
            | exc _ _ _ => intro z; cases z
            | ok y M3 =>
              simp only
              unfold sized
              split
              · exact lcl_exc r _ M3
              · intro z
                cases z
    · rw [if_neg h]
      intro z
      cases z
/-- the reading of a comprehension, by its mirror -/
theorem lc_read {C : Cm} {vs : List Nat} {ms : IM} {t : TMt} {c : BM} {el : EM} {σ : St} {H : Hp} {Q : VK} {i : Ix} {G : Env} {M : AH} (s : Sim C.K i M H) (r : ER C.K i H σ G)
    (hx : ∀ d fs M1, ms G M = .exc d fs M1 → ∀ cls d' j H', Ext i j H H' → Sim C.K j M1 H' → XR C j H' cls d' d fs → W cls d' σ H')
    (hk : ∃ S M1, ms G M = .ok S M1 ∧ ∃ as M2, lcl S t c el (wipeG G vs) S.items [] M1 = .ok as M2 ∧ ∀ D j H', (∃ i1 H1, Ext i i1 H H1 ∧ Sim C.K i1 M1 H1 ∧ H1 D = none ∧ LcAt C i1 H1 D (wipe σ vs) (wipeG G vs) as M2 H' j) → Q (.ref D) H') :
    tLc (tI C W ms) (tGx C vs t) (tB' C W0 c) (tE C W0 el) vs σ H Q := by
  obtain ⟨S, M1, e1, as, M2, e2, k⟩ := hk
  refine ⟨i, G, M, s, r, ?_⟩
  rw [e1]
  intro J j H' ee s1 ok D hD
  refine ⟨fun k m H2 => m = S.items.length - k ∧ k ≤ S.items.length ∧ ∃ jj acc M, LcAt C j H' D (wipe σ vs) (wipeG G vs) acc M H2 jj ∧ (∃ r M', lcl S t c el (wipeG G vs) (S.items.drop k) acc M = .ok r M' ∧ (r = as ∧ M' = M2)), ⟨S.items.length, by omega, Nat.zero_le _, ?_⟩, ?_⟩
  · refine ⟨j.hide D, [], M1, ⟨⟨⟨[], by simp [Ix.hide]⟩, fun a h => List.mem_cons_of_mem _ h, fun a ha hi => ?_, fun a h n => absurd h n, fun a u hi ha => ?_, fun a o u ha => (by
      have ne : a ≠ D := fun z => by rw [z, hD] at ha; cases ha
      rw [upd_ne ne]
      exact ha)⟩, s1.hide hD, ((r.mono ee).wipe vs).carry (Carry.hide hD), List.mem_cons_self, [], upd_same, .nil⟩, as, M2, e2, rfl, rfl⟩
    · rcases List.mem_cons.mp ha with z | z
      · rw [z]; exact hD
      · exact absurd (Or.inr z) hi
    · have ne : a ≠ D := fun z => by rw [z, hD] at ha; cases ha
      rw [upd_ne ne]
      exact ha
  · exact fun k' m H2 hw => lc_run (Q := fun r M' => r = as ∧ M' = M2) ok hD (fun _ _ _ h => h) (fun _ _ _ h => h) (fun _ _ _ _ h => h) wipe_wipe (fun acc M H3 jj A ⟨q1, q2⟩ => k D jj H3 ⟨j, H', ee, s1, hD, by rw [← q1, ← q2]; exact A⟩) k' m H2 hw
theorem lc_split {C : Cm} {vs : List Nat} {ms : IM} {t : TMt} {c : BM} {el : EM} {σ : St} {H : Hp} {Q : VK} {f : List AV → AH → Res AV} (h : tE C W (fun G M => (mLc vs ms t c el G M).bind f) σ H Q)
    (hf : ∀ (i : Ix) (H : Hp) (as : List AV) (M2 : AH) (D : Addr) (H' : Hp) (j i1 : Ix) (H1 : Hp) (M1 : AH) (G : Env), post C (RV C) i H (f as M2) Q (fun c d H' => W c d σ H') → Ext i i1 H H1 → Sim C.K i1 M1 H1 → H1 D = none → LcAt C i1 H1 D (wipe σ vs) G as M2 H' j → Q (.ref D) H') :
    tLc (tI C W ms) (tGx C vs t) (tB' C W0 c) (tE C W0 el) vs σ H Q := by
  obtain ⟨i, G, M, s, r, p⟩ := h
  simp only [mLc] at p
  cases e : ms G M with
  | stuck => rw [e] at p; exact False.elim p
  | exc d fs M1 =>
    refine ⟨i, G, M, s, r, ?_⟩
    rw [e] at p ⊢
    exact p
  | ok S M1 =>
    rw [e] at p
    cases e2 : lcl S t c el (wipeG G vs) S.items [] M1 with
    | stuck => simp only [e2] at p; exact False.elim p
    | exc d fs M2 => exact absurd e2 (lcl_exc _ _ _)
    | ok as M2 =>
      simp only [e2] at p
      exact lc_read s r (fun d fs M1 q => by rw [e] at q; cases q) ⟨S, M1, e, as, M2, e2, fun D j H' ⟨i1, H1, ee, s1, hD, A⟩ => hf i H as M2 D H' j i1 H1 M1 (wipeG G vs) p ee s1 hD A⟩
theorem lc_val {C : Cm} {vs : List Nat} {ms : IM} {t : TMt} {c : BM} {el : EM} {σ : St} {H : Hp} {Q : VK} (h : tE C W (mLcV (mLc vs ms t c el)) σ H Q) : tLc (tI C W ms) (tGx C vs t) (tB' C W0 c) (tE C W0 el) vs σ H Q :=
  lc_split h fun i H as M2 D H' j i1 H1 M1 G p ee s1 hD A => by
    obtain ⟨a1, a2, a3⟩ := A.val (H0 := H1) (fun a ha => (s1.sep a ha).2) hD
    exact p _ _ _ (ee.trans a1) a2 a3
theorem lc_num {C : Cm} {vs : List Nat} {ms : IM} {t : TMt} {c : BM} {el : EM} {σ : St} {H : Hp} {Q : VK} (h : tE C W (mLcR (mLc vs ms t c el)) σ H Q) : tLc (tI C W ms) (tGx C vs t) (tB' C W0 c) (tE C W0 el) vs σ H Q :=
  lc_split h fun i H as M2 D H' j i1 H1 M1 G p ee s1 hD A => by
    obtain ⟨a1, a2, a3⟩ := A.num (fun a ha => (s1.sep a ha).2) hD
    exact p _ _ _ (ee.trans a1) a2 a3
section
variable {elt tg iter : Expr} {ifs : List Expr} {scope : Scope} {own : List (Str × Nat)} {ms : IM} {t : TMt} {c : BM} {el : EM}
abbrev LcHyp (X : Cx) (elt tg : Expr) (ifs : List Expr) (scope : Scope) (vs : List Nat) (t : TMt) (c : BM) (el : EM) : Prop :=
  ∀ (s : Shared) (H : Hp) (C : Addr) (cl : List (Str × Addr)) (fp : List Addr), PG (X.blk s H scope (compEnvC scope cl C X.env) fp) tg (tGx (cm X) vs t) ∧ PTs (X.blk s H scope (compEnvC scope cl C X.env) fp) ifs (tB' (cm X) W0 c) ∧ PE (X.blk s H scope (compEnvC scope cl C X.env) fp) elt (tE (cm X) W0 el)
/-- [elt for tg in iter if ..], to be read alone -/
theorem e_lc (hc : X.calm = true) (hN : X.N.Nodup) (hi : PI X tg iter (tI (cm X) W ms)) (ok : BlkOk X.N X.env.scope scope own) (hh : LcHyp X elt tg ifs scope (own.map (·.2)) t c el) (hs : ∀ x, foldedSetIterable iter X.env x = pure x := by intro _; rfl) :
    PE X (.ListComp elt [⟨tg, iter, ifs, 0⟩] scope pos) (tE (cm X) W (mLcV (mLc (own.map (·.2)) ms t c el))) :=
  PE.imp (pe_lc hc hN hi ok (fun s H C cl fp => (hh s H C cl fp).1) (fun s H C cl fp => (hh s H C cl fp).2.1) (fun s H C cl fp => (hh s H C cl fp).2.2) hs) fun σ H Q h => lc_val h
/-- .., to be changed -/
theorem e_lcR (hc : X.calm = true) (hN : X.N.Nodup) (hi : PI X tg iter (tI (cm X) W ms)) (ok : BlkOk X.N X.env.scope scope own) (hh : LcHyp X elt tg ifs scope (own.map (·.2)) t c el) (hs : ∀ x, foldedSetIterable iter X.env x = pure x := by intro _; rfl) :
    PE X (.ListComp elt [⟨tg, iter, ifs, 0⟩] scope pos) (tE (cm X) W (mLcR (mLc (own.map (·.2)) ms t c el))) :=
  PE.imp (pe_lc hc hN hi ok (fun s H C cl fp => (hh s H C cl fp).1) (fun s H C cl fp => (hh s H C cl fp).2.1) (fun s H C cl fp => (hh s H C cl fp).2.2) hs) fun σ H Q h => lc_num h
/-- name = [..] -/
theorem s_setLc {k : Nat} {y : Str} {py spos : Pos} (hc : X.calm = true) (hN : X.N.Nodup) (hy : X.N[k]? = some y) (hyl : X.env.scope.names.lookup y = some .local)
    (hsw : swapsWith (.ListComp elt [⟨tg, iter, ifs, 0⟩] scope pos) (some (.Name y py)) spos.line X.env = pure true) (hi : PI X tg iter (tI (cm X) W ms)) (ok : BlkOk X.N X.env.scope scope own) (hh : LcHyp X elt tg ifs scope (own.map (·.2)) t c el) (hs : ∀ x, foldedSetIterable iter X.env x = pure x := by intro _; rfl) :
    PS X (.Assign [.Name y py] (.ListComp elt [⟨tg, iter, ifs, 0⟩] scope pos) spos) (tS (cm X) W (mSet k (mLcV (mLc (own.map (·.2)) ms t c el)))) :=
  PS.imp (ps_setLc hc hN hy hyl hsw hi ok (fun s H C cl fp => (hh s H C cl fp).1) (fun s H C cl fp => (hh s H C cl fp).2.1) (fun s H C cl fp => (hh s H C cl fp).2.2) hs) fun D σ H h => by
    have h1 := tS.st (R := RV (cm X)) (m := mLcV (mLc (own.map (·.2)) ms t c el)) (f := fun G a M1 => .next (G.set k (some a)) M1) h
    exact lc_val (tM.imp h1 fun v H1 ⟨j, G, a, M, s, r, rr, p⟩ => p _ j H1 Ext.refl s (r.set rr))
theorem s_setLcR {k : Nat} {y : Str} {py spos : Pos} (hc : X.calm = true) (hN : X.N.Nodup) (hy : X.N[k]? = some y) (hyl : X.env.scope.names.lookup y = some .local)
    (hsw : swapsWith (.ListComp elt [⟨tg, iter, ifs, 0⟩] scope pos) (some (.Name y py)) spos.line X.env = pure true) (hi : PI X tg iter (tI (cm X) W ms)) (ok : BlkOk X.N X.env.scope scope own) (hh : LcHyp X elt tg ifs scope (own.map (·.2)) t c el) (hs : ∀ x, foldedSetIterable iter X.env x = pure x := by intro _; rfl) :
    PS X (.Assign [.Name y py] (.ListComp elt [⟨tg, iter, ifs, 0⟩] scope pos) spos) (tS (cm X) W (mSet k (mLcR (mLc (own.map (·.2)) ms t c el)))) :=
  PS.imp (ps_setLc hc hN hy hyl hsw hi ok (fun s H C cl fp => (hh s H C cl fp).1) (fun s H C cl fp => (hh s H C cl fp).2.1) (fun s H C cl fp => (hh s H C cl fp).2.2) hs) fun D σ H h => by
    have h1 := tS.st (R := RV (cm X)) (m := mLcR (mLc (own.map (·.2)) ms t c el)) (f := fun G a M1 => .next (G.set k (some a)) M1) h
    exact lc_num (tM.imp h1 fun v H1 ⟨j, G, a, M, s, r, rr, p⟩ => p _ j H1 Ext.refl s (r.set rr))
end
end
end Mx

/-! Mx7: defs: their promise by a mirror, what they leave, calls, the law's end. -/
namespace Mx
open PySem L2

/-! ### numbers within a value -/
mutual
def cl (n : Nat) : AV → Bool
  | .tup xs => cls n xs
  | .lst xs => cls n xs
  | .fro xs => cls n xs
  | .tuc xs => cls n xs
  | .dK kvs => clk n kvs
  | .dT kvs => clt n kvs
  | .ref k => decide (k < n)
  | .non => true
  | .bl _ => true
  | .int _ => true
  | .str _ => true
def cls (n : Nat) : List AV → Bool
  | [] => true
  | x :: xs => cl n x && cls n xs
def clk (n : Nat) : List (Key × AV) → Bool
  | [] => true
  | (_, x) :: xs => cl n x && clk n xs
def clt (n : Nat) : List (List Key × AV) → Bool
  | [] => true
  | (_, x) :: xs => cl n x && clt n xs
end
theorem cls_all {n : Nat} : ∀ xs : List AV, cls n xs = xs.all (cl n)
  | [] => rfl
  | x :: xs => by rw [cls, cls_all xs, List.all_cons]
section
variable {K : PySem.W.Frag} {i : Ix} {H : Hp}
mutual
theorem VR.cl {n : Nat} (hn : i.num.length ≤ n) : ∀ (x : AV) (v : V), VR K i H v x → Mx.cl n x = true
  | .non, _, _ => by simp [Mx.cl]
  | .bl _, _, _ => by simp [Mx.cl]
  | .int _, _, _ => by simp [Mx.cl]
  | .str _, _, _ => by simp [Mx.cl]
  | .tup as, _, h => by
    cases h with
    | tup _ _ h2 => rw [Mx.cl]; exact VRs.cl hn as _ h2
  | .lst as, _, h => by
    cases h with
    | lst _ _ h2 => rw [Mx.cl]; exact VRs.cl hn as _ h2
  | .fro as, _, h => by
    cases h with
    | fro _ h2 => rw [Mx.cl]; exact VRs.cl hn as _ h2
  | .tuc as, _, h => by
    cases h with
    | tuc _ h2 => rw [Mx.cl]; exact VRs.cl hn as _ h2
  | .dK _, _, h => by cases h
  | .dT _, _, h => by cases h
  | .ref k, _, h => by
    cases h with
    | ref h1 =>
      rw [Mx.cl]
      exact decide_eq_true (Nat.lt_of_lt_of_le (List.getElem?_eq_some_iff.mp h1).1 hn)
theorem VRs.cl {n : Nat} (hn : i.num.length ≤ n) : ∀ (as : List AV) (vs : List V), VRs K i H vs as → Mx.cls n as = true
  | [], _, _ => by simp [Mx.cls]
  | a :: as, _, h => by
    cases h with
    | cons h1 h2 => rw [Mx.cls, VR.cl hn a _ h1, VRs.cl hn as _ h2]; rfl
end
theorem VRk.cl {n : Nat} (hn : i.num.length ≤ n) : ∀ (as : List (Key × AV)) (us : List (Key × V)), VRk K i H us as → Mx.clk n as = true
  | [], _, _ => by simp [Mx.clk]
  | (k, a) :: as, _, h => by
    cases h with
    | cons h1 h2 => rw [Mx.clk, h1.cl hn, VRk.cl hn as _ h2]; rfl
theorem VRt.cl {n : Nat} (hn : i.num.length ≤ n) : ∀ (as : List (List Key × AV)) (us : List (List Key × V)), VRt K i H us as → Mx.clt n as = true
  | [], _, _ => by simp [Mx.clt]
  | (k, a) :: as, _, h => by
    cases h with
    | cons h1 h2 => rw [Mx.clt, h1.cl hn, VRt.cl hn as _ h2]; rfl
theorem OR.cl {n : Nat} {a : Addr} {fr : Prop} {c : AV} (hn : i.num.length ≤ n) (h : OR K i H a fr c) : Mx.cl n c = true := by
  cases h with
  | lst _ h2 => rw [Mx.cl]; exact h2.cl hn
  | dK _ h2 => rw [Mx.cl]; exact h2.cl hn
  | dT _ h2 => rw [Mx.cl]; exact h2.cl hn
/-! ### fewer numbers -/
def Ix.cut (i : Ix) (n : Nat) : Ix := ⟨i.num.take n, i.prv⟩
theorem Ix.not_cut {n : Nat} {a : Addr} (h : a ∉ i) : a ∉ i.cut n := fun z => by
  rcases z with z | z
  · exact h (.inl (List.mem_of_mem_take z))
  · exact h (.inr z)
mutual
theorem VR.cut {n : Nat} : ∀ (x : AV) (v : V), Mx.cl n x = true → VR K i H v x → VR K (i.cut n) H v x
  | .non, _, _, h => by cases h; exact .non
  | .bl b, _, _, h => by cases h; exact .bl b
  | .int b, _, _, h => by cases h; exact .int b
  | .str b, _, _, h => by cases h; exact .str b
  | .tup as, _, hc, h => by
    rw [Mx.cl] at hc
    cases h with
    | tup h1 hn h2 => exact .tup h1 (Ix.not_cut hn) (VRs.cut as _ hc h2)
  | .lst as, _, hc, h => by
    rw [Mx.cl] at hc
    cases h with
    | lst h1 hn h2 => exact .lst h1 (Ix.not_cut hn) (VRs.cut as _ hc h2)
  | .fro as, _, hc, h => by
    rw [Mx.cl] at hc
    cases h with
    | fro h1 h2 =>
      refine .fro ?_ (VRs.cut as _ hc h2)
      rcases h1 with h1 | h1
      · exact .inl ⟨h1.1, Ix.not_cut h1.2⟩
      · exact .inr h1
  | .tuc as, _, hc, h => by
    rw [Mx.cl] at hc
    cases h with
    | tuc h1 h2 =>
      refine .tuc ?_ (VRs.cut as _ hc h2)
      rcases h1 with h1 | h1
      · exact .inl ⟨h1.1, Ix.not_cut h1.2⟩
      · exact .inr h1
  | .dK _, _, _, h => by cases h
  | .dT _, _, _, h => by cases h
  | .ref k, _, hc, h => by
    rw [Mx.cl] at hc
    cases h with
    | ref h1 =>
      refine .ref ?_
      show (i.num.take n)[k]? = some _
      rw [List.getElem?_take, if_pos (of_decide_eq_true hc)]
      exact h1
theorem VRs.cut {n : Nat} : ∀ (as : List AV) (vs : List V), Mx.cls n as = true → VRs K i H vs as → VRs K (i.cut n) H vs as
  | [], _, _, h => by cases h; exact .nil
  | a :: as, _, hc, h => by
    rw [Mx.cls, Bool.and_eq_true] at hc
    cases h with
    | cons h1 h2 => exact .cons (VR.cut a _ hc.1 h1) (VRs.cut as _ hc.2 h2)
end
theorem VRk.cut {n : Nat} : ∀ (as : List (Key × AV)) (us : List (Key × V)), Mx.clk n as = true → VRk K i H us as → VRk K (i.cut n) H us as
  | [], _, _, h => by cases h; exact .nil
  | (k, a) :: as, _, hc, h => by
    rw [Mx.clk, Bool.and_eq_true] at hc
    cases h with
    | cons h1 h2 => exact .cons (h1.cut _ _ hc.1) (VRk.cut as _ hc.2 h2)
theorem VRt.cut {n : Nat} : ∀ (as : List (List Key × AV)) (us : List (List Key × V)), Mx.clt n as = true → VRt K i H us as → VRt K (i.cut n) H us as
  | [], _, _, h => by cases h; exact .nil
  | (k, a) :: as, _, hc, h => by
    rw [Mx.clt, Bool.and_eq_true] at hc
    cases h with
    | cons h1 h2 => exact .cons (h1.cut _ _ hc.1) (VRt.cut as _ hc.2 h2)
theorem OR.cut {n : Nat} {a : Addr} {fr : Prop} {c : AV} (hc : Mx.cl n c = true) (h : OR K i H a fr c) : OR K (i.cut n) H a fr c := by
  cases h with
  | lst h1 h2 => rw [Mx.cl] at hc; exact .lst h1 (h2.cut _ _ hc)
  | dK h1 h2 => rw [Mx.cl] at hc; exact .dK h1 (h2.cut _ _ hc)
  | dT h1 h2 => rw [Mx.cl] at hc; exact .dT h1 (h2.cut _ _ hc)
end

/-! ### what a def leaves: its own objects are dropped where nothing that stays leans on them -/
/-- a new list that is handed back is a list for reading -/
def fin (n : Nat) (M : AH) (a : AV) : AV := match a with
  | .ref k => if k < n then .ref k else (match M.objs[k]? with
    | some (.lst xs) => .lst xs
    | _ => .ref k)
  | a => a
def Clean (n : Nat) (M M' : AH) : Prop := M'.fz = M.fz ∧ n ≤ M'.objs.length ∧ ∀ k c, k < n → M'.objs[k]? = some c → M.objs[k]? = some c ∨ cl n c = true
def AH.cut (M : AH) (n : Nat) : AH := ⟨M.objs.take n, M.fz⟩
open Classical in
noncomputable def gc (m : List AV → AH → Res AV) : List AV → AH → Res AV := fun as M => match m as M with
  | .ok a M' => if Clean M.objs.length M M' ∧ cl M.objs.length (fin M.objs.length M' a) = true then .ok (fin M.objs.length M' a) (M'.cut M.objs.length) else .ok a M'
  | .exc c fs M' => if Clean M.objs.length M M' ∧ fs.all (fun p => cl M.objs.length p.2) = true then .exc c fs (M'.cut M.objs.length) else .exc c fs M'
  | .stuck => .stuck
section
variable {C : Cm} {i j : Ix} {M M' : AH} {H H' : Hp}
theorem Clean.sim (h : Clean M.objs.length M M') (s0 : Sim C.K i M H) (e : Ext i j H H') (s : Sim C.K j M' H') : Ext i (j.cut M.objs.length) H H' ∧ Sim C.K (j.cut M.objs.length) (M'.cut M.objs.length) H' ∧ (j.cut M.objs.length).num = i.num := by
  have hnum : (j.cut M.objs.length).num = i.num := by
    obtain ⟨l, q⟩ := e.app
    show j.num.take M.objs.length = i.num
    rw [q, ← s0.len, List.take_left]
  refine ⟨⟨⟨[], by rw [hnum, List.append_nil]⟩, e.prv, e.hid, fun a ha hn => absurd (hnum ▸ ha) hn, e.keep, e.fro⟩, ⟨?_, ?_, fun a ha => ⟨fun z => (s.sep a ha).1 (List.mem_of_mem_take z), (s.sep a ha).2⟩, fun n a c h1 h2 => ?_, fun a ha => s.nt a ha, fun n hn => (by
    have hn : n ∈ M'.fz := hn
    rw [h.1] at hn
    obtain ⟨a, h1, o, u, h2⟩ := s0.fzl n hn
    exact ⟨a, by rw [hnum]; exact h1, o, u, e.fro a o u h2⟩)⟩, hnum⟩
  · show (j.num.take M.objs.length).length = (M'.objs.take M.objs.length).length
    rw [List.length_take, List.length_take, s.len]
  · exact s.nd.sublist (List.take_sublist _ _)
  · have h1 : (j.num.take M.objs.length)[n]? = some a := h1
    have h2 : (M'.objs.take M.objs.length)[n]? = some c := h2
    have hl : n < M.objs.length := by
      have q := (List.getElem?_eq_some_iff.mp h1).1
      rw [List.length_take] at q
      omega
    rw [List.getElem?_take, if_pos hl] at h1 h2
    have o := s.obj n a c h1 h2
    have hcl : cl M.objs.length c = true := by
      rcases h.2.2 n c hl h2 with z | z
      · obtain ⟨b, hb, ob⟩ := s0.at z
        exact ob.cl (by rw [s0.len]; exact Nat.le_refl _)
      · exact z
    exact o.cut hcl
theorem fin_vr {v : V} {a : AV} (hn : M.objs.length ≤ M'.objs.length) (s : Sim C.K j M' H') (r : VR C.K j H' v a) (hc : cl M.objs.length (fin M.objs.length M' a) = true) : VR C.K (j.cut M.objs.length) H' v (fin M.objs.length M' a) := by
  have done : ∀ x, fin M.objs.length M' a = x → VR C.K j H' v x → cl M.objs.length x = true → VR C.K (j.cut M.objs.length) H' v x := fun x _ h hx => h.cut _ _ hx
  cases r with
  | @ref p k hk =>
    by_cases hl : k < M.objs.length
    · have e : fin M.objs.length M' (.ref k) = .ref k := by simp [fin, hl]
      rw [e] at hc ⊢
      exact VR.cut _ _ hc (.ref hk)
    · obtain ⟨c, h1, o⟩ := s.get hk
      cases o with
      | @lst us xs h2 h3 =>
        have e : fin M.objs.length M' (.ref k) = .lst xs := by simp [fin, hl, h1]
        rw [e] at hc ⊢
        rw [cl] at hc
        refine .lst h2 (fun z => ?_) (h3.cut _ _ hc)
        rcases z with z | z
        · obtain ⟨m, hm, em⟩ := List.mem_iff_getElem.mp z
          have q : (j.num.take M.objs.length)[m]? = some p := (List.getElem?_eq_getElem hm).trans (congrArg some em)
          have hm' : m < M.objs.length := by
            have : m < (j.num.take M.objs.length).length := hm
            rw [List.length_take] at this
            omega
          rw [List.getElem?_take, if_pos hm'] at q
          have : m = k := nd_ix s.nd q hk
          omega
        · exact (s.sep p z).1 (List.mem_of_getElem? hk)
      | dK _ _ =>
        have e : fin M.objs.length M' (.ref k) = .ref k := by simp [fin, hl, h1]
        rw [e, cl] at hc
        exact absurd (of_decide_eq_true hc) hl
      | dT _ _ =>
        have e : fin M.objs.length M' (.ref k) = .ref k := by simp [fin, hl, h1]
        rw [e, cl] at hc
        exact absurd (of_decide_eq_true hc) hl
  | non => exact VR.cut _ _ hc .non
  | bl b => exact VR.cut _ _ hc (.bl b)
  | int b => exact VR.cut _ _ hc (.int b)
  | str b => exact VR.cut _ _ hc (.str b)
  | tup h1 h2 h3 => exact VR.cut _ _ hc (.tup h1 h2 h3)
  | lst h1 h2 h3 => exact VR.cut _ _ hc (.lst h1 h2 h3)
  | fro h1 h2 => exact VR.cut _ _ hc (.fro h1 h2)
  | tuc h1 h2 => exact VR.cut _ _ hc (.tuc h1 h2)
theorem FR.cut {n : Nat} : ∀ {us : List (Str × V)} {fs : List (Str × AV)}, fs.all (fun p => cl n p.2) = true → FR C.K j H' us fs → FR C.K (j.cut n) H' us fs
  | _, _, _, .nil => .nil
  | _, _, h, .cons r t => by
    rw [List.all_cons, Bool.and_eq_true] at h
    exact .cons (r.cut _ _ h.1) (FR.cut h.2 t)
theorem post.gc {m : List AV → AH → Res AV} {as : List AV} {Q : VK} {W : XK} (s0 : Sim C.K i M H) (h : post C (RV C) i H (Mx.gc m as M) Q W) : post C (RV C) i H (m as M) Q W := by
  unfold Mx.gc at h
  cases e : m as M with
  | ok a M' =>
    rw [e] at h
    simp only at h
    split at h
    · rename_i hc
      intro v j H' ee s r
      obtain ⟨e1, s1, _⟩ := hc.1.sim s0 ee s
      exact h v _ H' e1 s1 (fin_vr hc.1.2.1 s r hc.2)
    · exact h
  | exc c fs M' =>
    rw [e] at h
    simp only at h
    split at h
    · rename_i hc
      intro cls d j H' ee s x
      obtain ⟨e1, s1, _⟩ := hc.1.sim s0 ee s
      obtain ⟨A, q1, q2, dx, us, q3, q4, q5, q6⟩ := x
      exact h cls d _ H' e1 s1 ⟨A, q1, q2, dx, us, q3, Ix.not_cut q4, q5, q6.cut hc.2⟩
    · exact h
  | stuck =>
    rw [e] at h
    exact h
end

/-! ### defs: as the layer's, where it is known besides that no repr runs around -/
structure GnOk (P : Program) (w : World) (K : PySem.W.Frag) (mg : Str → Option Value) (base : Heap) (k : Nat) (f : Addr) (fd : FuncData) (ps : List Str) (sp : Sp) : Prop where
  len : ∀ vs H Q E, sp vs H Q E → vs.length = ps.length
  go : ∀ (A : Around) (outer : List PySem.Env) (s : Shared) (H : Hp) (args : Args) (us : List Value) (vs : List V) (Q : VK) (E : XK), A.guards = some [] → Room k A → Env0 P w K mg base A outer s H →
    BindsTo s fd args (ps.zip us) → Vals vs us → sp vs H Q E → codeAny (model P w) A (.call (.ref f) args) (CR (L2.CX P w) outer P w H s Q E) s
section
variable {P : Program} {w : World} {K : PySem.W.Frag} {mg : Str → Option Value} {base : Heap} {k : Nat} {f : Addr} {fd : FuncData} {ps : List Str} {sp sp' : Sp}
theorem GnOk.imp (G : GnOk P w K mg base k f fd ps sp) (h : ∀ vs H Q E, sp' vs H Q E → sp vs H Q E) : GnOk P w K mg base k f fd ps sp' :=
  ⟨fun vs H Q E q => G.len vs H Q E (h _ _ _ _ q), fun A o s H args us vs Q E g hr e b r q => G.go A o s H args us vs Q E g hr e b r (h _ _ _ _ q)⟩
theorem GnOk.mono {j : Nat} (G : GnOk P w K mg base j f fd ps sp) (h : j ≤ k) : GnOk P w K mg base k f fd ps sp := ⟨G.len, fun A o s H args us vs Q E g hr => G.go A o s H args us vs Q E g (hr.mono h)⟩
open PyProof.Rows in
theorem gn_of {x qual : Str} {st : Stmt} {N : List Str} (F : Fun K x qual st f fd) (S : FnScope N ps (defScope st)) (len : ∀ vs H Q E, sp vs H Q E → vs.length = ps.length)
    (body : ∀ (cdv : Value) (A : Around) (outer : List PySem.Env) (s : Shared) (H : Hp) (vs : List V) (Q : VK) (E : XK), A.guards = some [] → Room k (A.deeper (envOfC qual (defScope st) s.heap.objs.size f cdv)) → sp vs H Q E →
      ∃ t, PSs (cxOf (L2.CX P w) P w K mg base N qual (defScope st) f cdv A outer s H E) (defBody st) t ∧ t { nx := fun _ H' => Q .non H', rt := Q } (L2.start N vs) H) : GnOk P w K mg base (k + 1) f fd ps sp := by
  obtain ⟨oc, od, kV, doc, pm, an, cdv, ct, osl, rfl, lk, hcode⟩ := F.ex
  constructor
  · exact len
  intro A outer s H args us vs Q E g room ent bind rel want
  have stays : ∀ b o, base.get? b = some o → s.heap.get? b = some o := fun b o q => (ent.bs b o q).1
  have inK : K.In s.heap := ent.mod.kin.keeps stays
  have kinds : ∀ y ∈ ps.zip us, (defScope st).names.lookup y.1 = some .local ∨ ((defScope st).names.lookup y.1 = some .cell ∧ ((cellsFrom (s.heap.objs.size + 1) (defScope st).names []).lookup y.1).isSome = true) := by
    rintro ⟨nm, vv⟩ hy
    cases S.par nm (List.of_mem_zip hy).1 with
    | inl q => exact .inl q
    | inr q => exact .inr ⟨q, PySem.W.cellsFrom_some _ _ _ (.inl q)⟩
  apply codeAny_call_function room.depth (inK _ _ lk) rfl S.co S.gen rfl (PySem.W.codeRec_of inK hcode) (bind _ _ _ _ _)
  apply wpAny_newFunctionEnv_cells S.kind kinds
  intro env he s1 x
  subst he
  constructor
  · exact (ent.mod.nolimit.keeps stays).keeps x.toInCall.keep
  apply codeAny_func
  obtain ⟨t, ht, hq⟩ := body cdv A outer s H vs Q E g (room.deeper _) want
  have J := inv_start (CX := L2.CX P w) (P := P) (w := w) (K := K) (mg := mg) (base := base) (cd := cdv) (E := E) S room.hd ent (len _ _ _ _ want) rel x
  apply wpAny_mono (ht.run [] s1 (L2.start N vs) H _ J hq)
  · intro fl s' hs
    cases fl with
    | next =>
      obtain ⟨_, H', J', q⟩ := hs
      exact ⟨.non, H', J'.os, J'.bare, J'.base, J'.hok, rfl, q⟩
    | ret u =>
      obtain ⟨v, _, H', J', rv, q⟩ := hs
      exact ⟨v, H', J'.os, J'.bare, J'.base, J'.hok, rv, q⟩
    | brk =>
      obtain ⟨_, _, _, q⟩ := hs
      exact q.elim
    | cont =>
      obtain ⟨_, _, _, q⟩ := hs
      exact q.elim
  · exact fun e s' hs => hs
end

/-! ### their mirrors -/
/-- a body as a function of the arguments: so many of these, so many further slots -/
def mDef (n k : Nat) (body : SM) : List AV → AH → Res AV := fun as M => if as.length = n then (match body (as.map some ++ List.replicate k none) M with
  | .ret a M' => .ok a M'
  | .next _ M' => .ok .non M'
  | .exc c fs _ M' => .exc c fs M'
  | _ => .stuck) else .stuck
def spM (C : Cm) (m : List AV → AH → Res AV) : Sp := fun vs H Q E => ∃ i M as, Sim C.K i M H ∧ VRs C.K i H vs as ∧ post C (RV C) i H (m as M) Q E
theorem VRs.get {K : PySem.W.Frag} {i : Ix} {H : Hp} : ∀ {vs : List V} {as : List AV} {n : Nat} {a : AV}, VRs K i H vs as → as[n]? = some a → ∃ v, vs[n]? = some v ∧ VR K i H v a := fun h e => VRs.at h e
theorem er_start {K : PySem.W.Frag} {i : Ix} {H : Hp} {vs : List V} {as : List AV} {N : List Str} {k : Nat} (h : VRs K i H vs as) (hk : N.length = as.length + k) : ER K i H (L2.start N vs) (as.map some ++ List.replicate k none) := by
  have hl := h.len
  refine ⟨by simp [L2.start, hl, hk], fun n a e => ?_⟩
  by_cases hn : n < as.length
  · rw [List.getElem?_append_left (by simpa using hn), List.getElem?_map] at e
    cases q : as[n]? with
    | none => rw [q] at e; cases e
    | some b =>
      rw [q] at e
      have e' : b = a := Option.some.inj (Option.some.inj e)
      subst e'
      obtain ⟨v, h1, h2⟩ := h.at q
      refine ⟨v, ?_, h2⟩
      unfold L2.start
      rw [List.getElem?_append_left (by simp; omega), List.getElem?_map, h1]
      rfl
  · rw [List.getElem?_append_right (by simpa using hn)] at e
    have q := List.mem_of_getElem? e
    have z := (List.mem_replicate.mp q).2
    cases z
section
variable {P : Program} {w : World} {K : PySem.W.Frag} {mg : Str → Option Value} {base : Heap}
/-- what a derivation of a def's body has at hand -/
structure At (X : Cx) (W : WX) (k : Nat) : Prop where
  room : Room k X.A
  gd : X.A.guards = some []
  tk : Takes X W
  own : PassesOwn (model X.prog X.w) X.A X.env X.xe
theorem fn_ok {x qual : Str} {st : Stmt} {f : Addr} {fd : FuncData} {N ps : List Str} {k n e : Nat} {body : SM} (F : Fun K x qual st f fd) (S : FnScope N ps (defScope st)) (hn : ps.length = n) (he : N.length = n + e)
    (hb : ∀ (cdv : Value) (A : Around) (outer : List PySem.Env) (s : Shared) (H : Hp) (E : XK), At (cxOf (L2.CX P w) P w K mg base N qual (defScope st) f cdv A outer s H E) (fun cls d _ H => E cls d H) k →
      PSs (cxOf (L2.CX P w) P w K mg base N qual (defScope st) f cdv A outer s H E) (defBody st) (tS ⟨K, mg⟩ (fun cls d _ H => E cls d H) body)) : GnOk P w K mg base (k + 1) f fd ps (spM ⟨K, mg⟩ (gc (mDef n e body))) := by
  refine GnOk.imp (sp := spM ⟨K, mg⟩ (mDef n e body)) ?_ fun vs H Q E ⟨i, M, as, s, r, p⟩ => ⟨i, M, as, s, r, p.gc s⟩
  refine gn_of F S (fun vs H Q E h => ?_) (fun cdv A outer s H vs Q E g hr h => ⟨_, hb cdv A outer s H E ⟨hr, g, takes_of rfl rfl rfl rfl, passes_of rfl⟩, ?_⟩)
  · obtain ⟨i, M, as, s, r, p⟩ := h
    rw [r.len, hn]
    unfold mDef at p
    by_cases hl : as.length = n
    · exact hl
    · rw [if_neg hl] at p
      exact False.elim p
  · obtain ⟨i, M, as, s, r, p⟩ := h
    unfold mDef at p
    by_cases hl : as.length = n
    · rw [if_pos hl] at p
      refine ⟨i, _, M, s, er_start r (by rw [hl]; exact he), ?_⟩
      cases q : body (as.map some ++ List.replicate e none) M with
      | ret a M' =>
        rw [q] at p
        exact p
      | next G M' =>
        rw [q] at p
        exact fun σ j H' ee s' r' => p .non j H' ee s' .non
      | exc c fs G M' =>
        rw [q] at p
        exact fun cls d σ j H' ee s' r' x => p cls d j H' ee s' x
      | brk G M' =>
        rw [q] at p
        exact False.elim p
      | cnt G M' =>
        rw [q] at p
        exact False.elim p
      | stuck =>
        rw [q] at p
        exact False.elim p
    · rw [if_neg hl] at p
      exact False.elim p
end

/-! ### calls -/
section
variable {X : Cx} {W : WX} {pos p : Pos} {e : Expr} {es : List Expr} {n : AM} {m : List AV → AH → Res AV} {x : Str} {f : Addr} {fd : FuncData} {ps : List Str} {k : Nat}
theorem g_run {sp : Sp} {E : XK} {pins : List (Addr × Obj)} {σ : St} {H : Hp} {s : Shared} {Q : VK} {us : List Value} {vs : List V} (G : GnOk X.prog X.w X.K X.mg X.base k f fd ps sp) (hg : X.A.guards = some []) (hr : Room k X.A) (hb : Binds X.K fd ps [])
    (hx : ∀ H s' e, L2.CX X.prog X.w X.stack H s E e s' → Inv X pins σ H s → X.xe e s') (I : Inv X pins σ H s) (r : Vals vs us) (q : sp vs H Q E) : wpAny (model X.prog X.w) X.A (call (.ref f) us) (EP X pins σ Q) X.xe s := by
  have hl : (us ++ ([] : List Value)).length = ps.length := by
    rw [List.append_nil, ← r.length]
    exact G.len _ _ _ _ q
  have b := hb s us I.kIn hl
  rw [List.append_nil] at b
  apply wpAny_call
  apply codeAny_mono (G.go X.A X.stack s H ⟨us, []⟩ us vs Q E hg hr I.env0 b r q)
  intro res s' h
  match res, h with
  | .error er, h => exact hx H s' er h I
  | .ok (.ret u), h => exact I.after h
theorem e_call (F : GnOk X.prog X.w X.K X.mg X.base k f fd ps (spM (cm X) m)) (T : At X W k) (hg : Gl X x) (hm : X.mg x = some (.ref f)) (hk : PySem.W.keepIn X.K (.ref f) = true) (hb : Binds X.K fd ps [])
    (ha : PA X (e :: es) (tA (cm X) W n)) (hdb : (x == ("__debug__" : Str)) = false := by decide) (he : starEach (e :: es) X.env = (false, eval e X.env) :: starEach es X.env := by rfl) (hpl : (backTo pos (starEach es X.env)).any (·.1) = false := by rfl) :
    PE X (.Call (.Name x p) (e :: es) [] pos) (tE (cm X) W (mCall m n)) := by
  constructor
  intro pins s σ H Q I h
  have h1 := tM.bind (R := RVs (cm X)) (m := n) (f := fun G as M1 => m as M1) h
  apply wpAny_Call_Name_kw (ld_glob I hg hm _ hdb)
  apply PySem.W.callWith_K (h₀ := X.base) I.ok.mod.kin hk _ he hpl
  apply thn (ha.run pos pins s σ H _ I h1)
  rintro us s1 ⟨vs, H1, I1, r, j, G, as, M, sm, er, rr, q⟩
  exact ⟨I1.kIn, g_run F T.gd T.room hb (fun H s' e c J => passAt T.tk σ _ _ _ e s' J c) I1 r ⟨j, M, as, sm, rr, q⟩⟩
theorem e_call0 (F : GnOk X.prog X.w X.K X.mg X.base k f fd ps (spM (cm X) m)) (T : At X W k) (hg : Gl X x) (hm : X.mg x = some (.ref f)) (hk : PySem.W.keepIn X.K (.ref f) = true) (hb : Binds X.K fd ps [])
    (hdb : (x == ("__debug__" : Str)) = false := by decide) : PE X (.Call (.Name x p) [] [] pos) (tE (cm X) W (fun _ M => m [] M)) := by
  constructor
  rintro pins s σ H Q I ⟨i, G, M, sm, r, q⟩
  apply wpAny_Call_Name_kw (ld_glob I hg hm _ hdb)
  apply PySem.W.callWith_K0 I.kIn hk
  exact g_run (us := []) F T.gd T.room hb (fun H s' e c J => passAt T.tk σ _ _ _ e s' J c) I .nil ⟨i, M, [], sm, .nil, q⟩
end

/-! ### the law's end -/
theorem ints_vr {K : PySem.W.Frag} {i : Ix} {H : Hp} : ∀ ns : List Int, VRs K i H (ns.map V.int) (ns.map AV.int)
  | [] => .nil
  | n :: ns => .cons (.int n) (ints_vr ns)
/-- the law answers True to every script -/
def LawOk (m : List AV → AH → Res AV) : Prop := ∀ ns : List Int, ns.length ≤ 63 → ∃ M', m [.fro (ns.map .int)] ⟨[], []⟩ = .ok (.bl true) M'
theorem law_sp {K : PySem.W.Frag} {mg : Str → Option Value} {m : List AV → AH → Res AV} (h : LawOk m) {a : Addr} {ns : List Int} {H : Hp} {E : XK} (hl : ns.length ≤ 63) (hq : SqL K H a (ns.map V.int)) : spM ⟨K, mg⟩ m [.ref a] H (fun v _ => v = .bl true) E := by
  obtain ⟨M', e⟩ := h ns hl
  refine ⟨⟨[], []⟩, ⟨[], []⟩, [.fro (ns.map .int)], ⟨rfl, List.nodup_nil, (fun a h => nomatch h), (fun n a c h _ => by simp at h), (fun a h => nomatch h), (fun n h => nomatch h)⟩, .cons (.fro ?_ (ints_vr ns)) .nil, ?_⟩
  · rcases hq with hq | hq
    · exact .inl ⟨hq, fun z => by rcases z with z | z <;> cases z⟩
    · exact .inr hq
  · rw [e]
    intro v j H' _ _ r
    cases r
    rfl
section
open PyProof.Rows
variable {P : Program} {w : World} {K : PySem.W.Frag} {mg mb : Str → Option Value} {k : Nat} {fa a : Addr} {fd : FuncData} {x : Str} {m : List AV → AH → Res AV} {s : Shared} {vs : List Value} {ns : List Int}
theorem law_run (hK : K.In s.heap) (hns : s.heap.Ns mainGlobals mg) (hb : s.heap.Ns builtinsNs mb) (hbb : ∀ y : Str, y ≠ "__name__" → mb y = bootBuiltins y) (hlim : s.heap.NoLimit) (hg : s.gens = #[])
    (ha : s.heap.get? a = some { cls := .type "list", data := .seq vs.toArray }) (hi : IntsAre vs ns) (hl : ns.length ≤ 63) (room : Room k callerA) (lawok : LawOk m)
    (F : ∀ base : Heap, K.In base → base.Ns mainGlobals mg → GnOk P w K mg base k fa fd [x] (spM ⟨K, mg⟩ m)) (hbind : ∀ (s : Shared) (u : Value), BindsTo s fd ⟨[u], []⟩ [(x, u)]) :
    codeAny (model P w) callerA (.call (.ref fa) ⟨[.ref a], []⟩) (fun r s' => r = .ok (.ret (.bool true)) ∧ OldK s.heap s'.heap ∧ s'.os = s.os ∧ AllBare s'.gens) s := by
  have hsz : ns.length ≤ sizeLine := Nat.le_trans hl (by decide)
  have main : ∀ H : Hp, (∀ b, H b = none ∨ (b = a ∧ K.lookup a = none ∧ H b = some (.frz { cls := .type "list", data := .seq vs.toArray } (.lst (ns.map V.int))))) → SqL K H a (ns.map V.int) → HOk P w H s.heap →
      codeAny (model P w) callerA (.call (.ref fa) ⟨[.ref a], []⟩) (fun r s' => r = .ok (.ret (.bool true)) ∧ OldK s.heap s'.heap ∧ s'.os = s.os ∧ AllBare s'.gens) s := by
    intro H only hq hok
    have there : ∀ b o, s.heap.get? b = some o → (∀ es ep, o.data = .dict es ep → H b = none) := fun b o e es ep d => by
      rcases only b with z | ⟨z, _, _⟩
      · exact z
      · rw [z, ha] at e
        cases e
        cases d
    have ns_ : ∀ {b : Addr} {n : Str → Option Value}, s.heap.Ns b n → (hidT s.heap H).Ns b n := by
      rintro b n ⟨o, es, ep, e, d, r⟩
      exact ⟨o, es, ep, hidT_get e (there b o e es ep d), d, r⟩
    have kin : K.In (hidT s.heap H) := by
      intro b o e
      rcases only b with z | ⟨z, z', _⟩
      · exact hidT_get (hK b o e) z
      · rw [z, z'] at e
        cases e
    have md : Mod K mg (hidT s.heap H) := by
      obtain ⟨mc, l1, l2⟩ := hlim
      exact ⟨kin, ns_ hns, ⟨mb, ns_ hb, hbb⟩, mc, ns_ l1, l2⟩
    have en : Env0 P w K mg (hidT s.heap H) callerA [] s H := ⟨rfl, md, fun b o e => of_hidT e, Nat.le_of_eq (hidT_size _ _), trivial, (fun b hb => nomatch hb), hok, .of_eq hg⟩
    apply codeAny_mono ((F _ kin (ns_ hns)).go callerA [] s H ⟨[.ref a], []⟩ [.ref a] [.ref a] _ (fun _ _ _ => False) rfl room en (hbind s (.ref a)) (.cons rfl .nil) (law_sp lawok hl hq))
    intro r s' h
    match r, h with
    | .error e, h =>
      obtain ⟨_, _, _, _, _, _, _, _, _, _, _, _, z⟩ := h
      exact z.elim
    | .ok (.ret u), h =>
      obtain ⟨v, H', os, bare, un, hok', rv, q⟩ := h
      have q' : v = .bl true := q
      subst q'
      have hu : u = Value.bool true := rv
      subst hu
      refine ⟨rfl, OldK.of_keep fun b o e => ?_, os, bare⟩
      rcases only b with z | ⟨_, _, z⟩
      · exact un.keep b o e z (fun q => nomatch q) (fun q => nomatch q)
      · have z1 := (hok b _ z).1
        have z2 := (hok' b _ (un.frzs b _ _ z)).1
        rw [e] at z1
        cases z1
        exact z2
  have rel := vals_ints hi
  cases look : K.lookup a with
  | some o =>
    have e := hK a o look
    rw [ha] at e
    cases e
    exact main (fun _ => none) (fun _ => .inl rfl) (.inr ⟨_, vs.toArray, _, look, rfl, rfl, rfl, by rw [List.size_toArray, hi.length]; exact hsz, by simpa using rel⟩) fun b u z => nomatch (show (none : Option HO) = some u from z)
  | none =>
    refine main (fun b => if b = a then some (.frz { cls := .type "list", data := .seq vs.toArray } (.lst (ns.map V.int))) else none) (fun b => ?_) (.inl (.inr ⟨_, if_pos rfl⟩)) fun b u z => ?_
    · by_cases h : b = a
      · exact .inr ⟨h, look, if_pos h⟩
      · exact .inl (if_neg h)
    · by_cases h : b = a
      · subst h
        have z' := (if_pos rfl).symm.trans z
        cases z'
        exact ⟨ha, by rw [List.length_map]; exact hsz, vs, _, rel, ha⟩
      · have z' := (if_neg h).symm.trans z
        cases z'
/-- what k_head leaves -/
theorem walk_mx {l : PySem.W.OpenLaw} {q : Program} {loose : List Str} {XP : (Str → Option Value) → Heap → Prop} {YP : World → Heap → Prop} {d : DefRec} {K : Params → PySem.W.Frag}
    (hn : l.most = some 63) (hdf : d.params.defaults = []) (room : Room k callerA) (hY : ∀ (w : World) (h : Heap), YP w h → (K w.params).In h) (lawok : LawOk m)
    (F : ∀ (w : World) (mg : Str → Option Value) (fa : Addr) (h : Heap), (K w.params).In h → h.Ns mainGlobals mg → mg d.name = some (.ref fa) →
      ∃ fd : FuncData, (∀ (s : Shared) (u : Value), BindsTo s fd ⟨[u], []⟩ [(x, u)]) ∧ ∀ base : Heap, (K w.params).In base → base.Ns mainGlobals mg → GnOk l.prog w (K w.params) mg base k fa fd [x] (spM ⟨K w.params, mg⟩ m)) :
    PySem.W.WalkO q loose XP YP l.row.toRowW d [] (fun f vs => PySem.call f vs) := by
  apply Att.attach_call hn hdf
  intro w s0 s1 mg mb fa o pm cd doc a vs ns G Y ho hd hcd hmg hobj hints hlen hg
  have kx := hY w _ Y
  obtain ⟨fd, hb, hF⟩ := F w mg fa _ kx G.T.g hmg
  exact law_run kx G.T.g G.T.b G.T.builtins G.T.nolimit hg hobj hints hlen room lawok hF hb
end
end Mx

/-! Mx8: in over lists and tuples of plain data. -/
namespace Mx
open PySem L2
mutual
theorem reads_uniq : ∀ (x y : PyData) (n : Nat) (h : Heap) (v : Value) (as bs : List Addr), pdl n x = true → Reads h v x as → Reads h v y bs → x = y
  | .none, y, _, _, _, _, _, _, a, b => by cases a; cases b; rfl
  | .bool k, y, _, _, _, _, _, _, a, b => by cases a; cases b; rfl
  | .int k, y, _, _, _, _, _, _, a, b => by cases a; cases b; rfl
  | .str k, y, _, _, _, _, _, _, a, b => by cases a; cases b; rfl
  | .dict _, _, n, _, _, _, _, hp, _, _ => by cases n <;> cases hp
  | .list xs, _, 0, _, _, _, _, hp, _, _ => by cases hp
  | .tuple xs, _, 0, _, _, _, _, hp, _, _ => by cases hp
  | .list xs, y, n + 1, h, v, as, bs, hp, a, b => by
    cases a with
    | list a1 a2 a3 a4 =>
      cases b with
      | list b1 b2 b3 b4 =>
        obtain ⟨vs, cs, ds, r1, r2⟩ := uniq_list (.list a1 a2 a3 a4) (.list b1 b2 b3 b4)
        rw [reads_uniqs xs _ n h vs _ _ hp r1 r2]
      | tuple b1 b2 b3 b4 =>
        rw [a1] at b1
        cases b1
        rw [a2] at b2
        injection b2 with z
        exact absurd z (by decide)
      | dict b1 b2 =>
        rw [a1] at b1
        cases b1
        rw [a2] at b2
        injection b2 with z
        exact absurd z (by decide)
  | .tuple xs, y, n + 1, h, v, as, bs, hp, a, b => by
    cases a with
    | tuple a1 a2 a3 a4 =>
      cases b with
      | tuple b1 b2 b3 b4 =>
        obtain ⟨vs, cs, ds, r1, r2⟩ := uniq_tuple (.tuple a1 a2 a3 a4) (.tuple b1 b2 b3 b4)
        rw [reads_uniqs xs _ n h vs _ _ hp r1 r2]
      | list b1 b2 b3 b4 =>
        rw [a1] at b1
        cases b1
        rw [a2] at b2
        injection b2 with z
        exact absurd z (by decide)
      | dict b1 b2 =>
        rw [a1] at b1
        cases b1
        rw [a2] at b2
        injection b2 with z
        exact absurd z (by decide)
theorem reads_uniqs : ∀ (xs ys : List PyData) (n : Nat) (h : Heap) (vs : List Value) (as bs : List Addr), xs.all (pdl n) = true → ReadsAll h vs xs as → ReadsAll h vs ys bs → xs = ys
  | [], _, _, _, _, _, _, _, a, b => by cases a; cases b; rfl
  | x :: xs, _, n, h, _, _, _, hp, a, b => by
    cases a with
    | cons a1 a2 =>
      cases b with
      | cons b1 b2 =>
        rw [List.all_cons, Bool.and_eq_true] at hp
        rw [reads_uniq x _ n h _ _ _ hp.1 a1 b1, reads_uniqs xs _ n h _ _ _ hp.2 a2 b2]
end
open Classical in
/-- a value's reading, where it has one -/
noncomputable def readAt (h : Heap) (u : Value) : PyData := if q : ∃ d as, Reads h u d as ∧ pdl 60 d = true then choose q else .none
theorem readAt_eq {h : Heap} {u : Value} {d : PyData} {as : List Addr} (r : Reads h u d as) (p : pdl 60 d = true) : readAt h u = d := by
  have q : ∃ d as, Reads h u d as ∧ pdl 60 d = true := ⟨d, as, r, p⟩
  unfold readAt
  rw [dif_pos q]
  obtain ⟨bs, r2, p2⟩ := Classical.choose_spec q
  exact reads_uniq _ _ 60 h u _ _ p2 r2 r
theorem readsAll_at {h : Heap} : ∀ {us : List Value} {ds : List PyData} {as : List Addr}, ReadsAll h us ds as → ds.all (pdl 60) = true → us.map (readAt h) = ds ∧ ∀ u ∈ us, ∃ d bs, Reads h u d bs ∧ pdl 60 d = true
  | _, _, _, .nil, _ => ⟨rfl, fun _ h => nomatch h⟩
  | _, _, _, .cons r t, p => by
    rw [List.all_cons, Bool.and_eq_true] at p
    obtain ⟨h1, h2⟩ := readsAll_at t p.2
    refine ⟨by rw [List.map_cons, h1, readAt_eq r p.1], fun u hu => ?_⟩
    rcases List.mem_cons.mp hu with e | hu
    · subst e
      exact ⟨_, _, r, p.1⟩
    · exact h2 u hu
theorem any_at {h : Heap} {us : List Value} {ds : List PyData} {as : List Addr} (f : PyData → Bool) (r : ReadsAll h us ds as) (p : ds.all (pdl 60) = true) : (us.toArray.any fun u => f (readAt h u)) = ds.any f := by
  have e := (readsAll_at r p).1
  rw [← e, List.any_map]
  simp [Function.comp_def]
open PySem.SeqAt in
theorem items_eq {s : Shared} {A : Around} {us : List Value} {ds : List PyData} {as bs : List Addr} {x : Value} {d : PyData} (r : ReadsAll s.heap us ds as) (p : ds.all (pdl 60) = true) (rx : Reads s.heap x d bs) (px : pdl 60 d = true) (hu : A.units + 60 < cLine) :
    ∀ y, y ∈ us.toArray → EqAt A s y x (PyData.eqv (readAt s.heap y) d) := fun y hy => by
  obtain ⟨e, cs, ry, py⟩ := (readsAll_at r p).2 y (by simpa using hy)
  rw [readAt_eq ry py]
  exact eq_deep 60 e d A s y x cs bs ry rx py px hu
/-- what may be searched: a list, a tuple -/
inductive SeqD (K : PySem.W.Frag) (H : Hp) : V → List PyData → Prop
  | lst {a : Addr} {xs : List V} {ds : List PyData} : SqL K H a xs → DpAll K H xs ds → SeqD K H (.ref a) ds
  | tup {a : Addr} {xs : List V} {ds : List PyData} : SqT K H a xs → DpAll K H xs ds → SeqD K H (.ref a) ds
def rInP (K : PySem.W.Frag) (neg : Bool) : R2 := fun x y H Q => ∃ d ds, Dp K H x d ∧ SeqD K H y ds ∧ pdl 60 d = true ∧ ds.all (pdl 60) = true ∧ Q (.bl (if neg then !ds.any (fun z => PyData.eqv z d) else ds.any fun z => PyData.eqv z d)) H
open PySem.SeqAt in
theorem op_inP {X : Cx} (hu : X.A.units + 64 < cLine) : OpR X (compareOp .In) (rInP X.K false) := by
  intro pins s σ H x y v u Q I rx ry h
  obtain ⟨d, ds, hd, he, pd, pe, q⟩ := h
  obtain ⟨as, r1⟩ := Dp.reads I d x v hd rx
  have room : X.A.in1.units + 60 < cLine := by
    show X.A.units + 1 + 60 < cLine
    omega
  cases he with
  | lst hs ha =>
    cases ry
    obtain ⟨its, rv, hl, _⟩ := I.list hs
    obtain ⟨bs, r2⟩ := Dp.readsAll I ds _ its ha rv
    refine in_listAt (fun z => PyData.eqv (readAt s.heap z) d) hl.isList (items_eq r2 pe r1 pd room) ⟨.bl _, H, I, ?_, q⟩
    rw [any_at (fun z => PyData.eqv z d) r2 pe]
    rfl
  | tup hs ha =>
    cases ry
    obtain ⟨its, rv, hl, _⟩ := I.tuple hs
    obtain ⟨bs, r2⟩ := Dp.readsAll I ds _ its ha rv
    refine in_tupleAt (fun z => PyData.eqv (readAt s.heap z) d) (show s.heap.IsTuple _ its.toArray from hl) (items_eq r2 pe r1 pd room) ⟨.bl _, H, I, ?_, q⟩
    rw [any_at (fun z => PyData.eqv z d) r2 pe]
    rfl
open PySem.SeqAt in
theorem op_notInP {X : Cx} (hu : X.A.units + 64 < cLine) : OpR X (compareOp .NotIn) (rInP X.K true) := by
  intro pins s σ H x y v u Q I rx ry h
  obtain ⟨d, ds, hd, he, pd, pe, q⟩ := h
  obtain ⟨as, r1⟩ := Dp.reads I d x v hd rx
  have room : X.A.in1.units + 60 < cLine := by
    show X.A.units + 1 + 60 < cLine
    omega
  cases he with
  | lst hs ha =>
    cases ry
    obtain ⟨its, rv, hl, _⟩ := I.list hs
    obtain ⟨bs, r2⟩ := Dp.readsAll I ds _ its ha rv
    refine notIn_listAt (fun z => PyData.eqv (readAt s.heap z) d) hl.isList (items_eq r2 pe r1 pd room) ⟨.bl _, H, I, ?_, q⟩
    rw [any_at (fun z => PyData.eqv z d) r2 pe]
    rfl
  | tup hs ha =>
    cases ry
    obtain ⟨its, rv, hl, _⟩ := I.tuple hs
    obtain ⟨bs, r2⟩ := Dp.readsAll I ds _ its ha rv
    refine notIn_tupleAt (fun z => PyData.eqv (readAt s.heap z) d) (show s.heap.IsTuple _ its.toArray from hl) (items_eq r2 pe r1 pd room) ⟨.bl _, H, I, ?_, q⟩
    rw [any_at (fun z => PyData.eqv z d) r2 pe]
    rfl

/-! ### readable things, by the mirror's heap -/
def lstR (M : AH) : AV → Option (List AV)
  | .lst xs => some xs
  | .fro xs => some xs
  | .ref n => match M.objs[n]? with
    | some (.lst xs) => some xs
    | _ => none
  | _ => none
/-- .. those that are no lock's, no written ones -/
def lstX (M : AH) : AV → Option (List AV)
  | .lst xs => some xs
  | .ref n => match M.objs[n]? with
    | some (.lst xs) => some xs
    | _ => none
  | _ => none
def dctK (M : AH) : AV → Option (List (Key × AV))
  | .ref n => match M.objs[n]? with
    | some (.dK kvs) => some kvs
    | _ => none
  | _ => none
def dctT (M : AH) : AV → Option (List (List Key × AV))
  | .ref n => match M.objs[n]? with
    | some (.dT kvs) => some kvs
    | _ => none
  | _ => none
section
variable {K : PySem.W.Frag} {i : Ix} {M : AH} {H : Hp} {v : V} {a : AV} {xs : List AV}
theorem lstR_at (s : Sim K i M H) (r : VR K i H v a) (h : lstR M a = some xs) : ∃ p us, v = .ref p ∧ SqL K H p us ∧ VRs K i H us xs := by
  cases r with
  | lst h1 h2 h3 =>
    cases h
    exact ⟨_, _, rfl, SqL.of h1, h3⟩
  | fro h1 h2 =>
    cases h
    exact ⟨_, _, rfl, sl_of h1, h2⟩
  | @ref p n hn =>
    obtain ⟨c, hc, o⟩ := s.get hn
    simp only [lstR, hc] at h
    cases o with
    | lst h1 h2 =>
      cases h
      exact ⟨_, _, rfl, SqL.of h1, h2⟩
    | dK _ _ => cases h
    | dT _ _ => cases h
  | _ => cases h
theorem lstX_at (s : Sim K i M H) (r : VR K i H v a) (h : lstX M a = some xs) : ∃ p us, v = .ref p ∧ H p = some (.lst us) ∧ VRs K i H us xs := by
  cases r with
  | lst h1 h2 h3 =>
    cases h
    exact ⟨_, _, rfl, h1, h3⟩
  | @ref p n hn =>
    obtain ⟨c, hc, o⟩ := s.get hn
    simp only [lstX, hc] at h
    cases o with
    | lst h1 h2 =>
      cases h
      exact ⟨_, _, rfl, h1, h2⟩
    | dK _ _ => cases h
    | dT _ _ => cases h
  | _ => cases h
theorem dctK_at {kvs : List (Key × AV)} (s : Sim K i M H) (r : VR K i H v a) (h : dctK M a = some kvs) : ∃ p n us, v = .ref p ∧ a = .ref n ∧ i.num[n]? = some p ∧ M.objs[n]? = some (.dK kvs) ∧ Rd H p (.dK us) ∧ (n ∉ M.fz → H p = some (.dK us)) ∧ VRk K i H us kvs := by
  cases r with
  | @ref p n hn =>
    obtain ⟨c, hc, o⟩ := s.get hn
    simp only [dctK, hc] at h
    cases o with
    | dK h1 h2 =>
      cases h
      refine ⟨p, n, _, rfl, rfl, hn, hc, ?_, fun hf => ?_, h2⟩
      · rcases h1 with h1 | ⟨_, h1⟩
        · exact .inl h1
        · exact .inr h1
      · rcases h1 with h1 | ⟨h0, _⟩
        · exact h1
        · exact absurd h0 hf
    | lst _ _ => cases h
    | dT _ _ => cases h
  | _ => cases h
theorem dctT_at {kvs : List (List Key × AV)} (s : Sim K i M H) (r : VR K i H v a) (h : dctT M a = some kvs) : ∃ p n us, v = .ref p ∧ a = .ref n ∧ i.num[n]? = some p ∧ M.objs[n]? = some (.dT kvs) ∧ Rd H p (.dT us) ∧ (n ∉ M.fz → H p = some (.dT us)) ∧ VRt K i H us kvs := by
  cases r with
  | @ref p n hn =>
    obtain ⟨c, hc, o⟩ := s.get hn
    simp only [dctT, hc] at h
    cases o with
    | dT h1 h2 =>
      cases h
      refine ⟨p, n, _, rfl, rfl, hn, hc, ?_, fun hf => ?_, h2⟩
      · rcases h1 with h1 | ⟨_, h1⟩
        · exact .inl h1
        · exact .inr h1
      · rcases h1 with h1 | ⟨h0, _⟩
        · exact h1
        · exact absurd h0 hf
    | lst _ _ => cases h
    | dK _ _ => cases h
  | _ => cases h
/-! ### keys -/
def keyK : AV → Option Key
  | .int k => some (.inl k)
  | .str x => some (.inr x)
  | _ => none
def keyKs : List AV → Option (List Key)
  | [] => some []
  | a :: r => match keyK a, keyKs r with
    | some k, some ks => some (k :: ks)
    | _, _ => none
def keyT : AV → Option (List Key)
  | .tup xs => keyKs xs
  | _ => none
theorem keyK_at {k : Key} (r : VR K i H v a) (h : keyK a = some k) : v = kV k := by
  cases r with
  | int n => cases h; rfl
  | str n => cases h; rfl
  | _ => cases h
theorem keyKs_at : ∀ {us : List V} {as : List AV} {ks : List Key}, VRs K i H us as → keyKs as = some ks → us = ks.map kV
  | _, _, _, .nil, h => by cases h; rfl
  | _, _, ks, .cons (a := a) (as := as) r t, h => by
    unfold keyKs at h
    cases e1 : keyK a with
    | none => rw [e1] at h; cases h
    | some k =>
      cases e2 : keyKs as with
      | none => rw [e1, e2] at h; cases h
      | some ks' =>
        rw [e1, e2] at h
        cases h
        rw [List.map_cons, keyK_at r e1, keyKs_at t e2]
theorem keyT_at {ks : List Key} (r : VR K i H v a) (h : keyT a = some ks) : ∃ b, v = .ref b ∧ H b = some (.tup (ks.map kV)) := by
  cases r with
  | @tup b us as h1 hn h2 => exact ⟨b, rfl, by rw [h1, keyKs_at h2 h]⟩
  | _ => cases h
end
/-- a dict's entries in the mirror -/
def getK {κ : Type} [DecidableEq κ] (kvs : List (κ × AV)) (k : κ) : Option AV := (kvs.find? fun kv => decide (kv.1 = k)).map (·.2)
def setK {κ : Type} [DecidableEq κ] (kvs : List (κ × AV)) (k : κ) (v : AV) : List (κ × AV) :=
  if (kvs.any fun kv => decide (kv.1 = k)) = true then kvs.map (fun kv => if kv.1 = k then (kv.1, v) else kv) else kvs ++ [(k, v)]
section
variable {K : PySem.W.Frag} {i : Ix} {H : Hp}
theorem VRk.get {k : Key} : ∀ {us : List (Key × V)} {as : List (Key × AV)}, VRk K i H us as → (valV us k = none ∧ getK as k = none) ∨ ∃ v a, valV us k = some v ∧ getK as k = some a ∧ VR K i H v a
  | _, _, .nil => .inl ⟨rfl, rfl⟩
  | _, _, .cons (k := k') (v := v) (a := a) r t => by
    by_cases e : k' = k
    · exact .inr ⟨v, a, by simp [valV, e], by simp [getK, e], r⟩
    · rcases VRk.get (k := k) t with ⟨h1, h2⟩ | ⟨v', a', h1, h2, h3⟩
      · left
        unfold valV getK at *
        rw [List.find?_cons, List.find?_cons]
        simp only [e, decide_false]
        exact ⟨h1, h2⟩
      · right
        refine ⟨v', a', ?_, ?_, h3⟩ <;> unfold valV getK at * <;> rw [List.find?_cons] <;> simp only [e, decide_false] <;> assumption
theorem VRt.get {k : List Key} : ∀ {us : List (List Key × V)} {as : List (List Key × AV)}, VRt K i H us as → (valV us k = none ∧ getK as k = none) ∨ ∃ v a, valV us k = some v ∧ getK as k = some a ∧ VR K i H v a
  | _, _, .nil => .inl ⟨rfl, rfl⟩
  | _, _, .cons (k := k') (v := v) (a := a) r t => by
    by_cases e : k' = k
    · exact .inr ⟨v, a, by simp [valV, e], by simp [getK, e], r⟩
    · rcases VRt.get (k := k) t with ⟨h1, h2⟩ | ⟨v', a', h1, h2, h3⟩
      · left
        unfold valV getK at *
        rw [List.find?_cons, List.find?_cons]
        simp only [e, decide_false]
        exact ⟨h1, h2⟩
      · right
        refine ⟨v', a', ?_, ?_, h3⟩ <;> unfold valV getK at * <;> rw [List.find?_cons] <;> simp only [e, decide_false] <;> assumption
theorem VRk.any {p : Key → Bool} : ∀ {us : List (Key × V)} {as : List (Key × AV)}, VRk K i H us as → us.any (fun kv => p kv.1) = as.any fun kv => p kv.1
  | _, _, .nil => rfl
  | _, _, .cons _ t => by rw [List.any_cons, List.any_cons, VRk.any t]
theorem VRt.any {p : List Key → Bool} : ∀ {us : List (List Key × V)} {as : List (List Key × AV)}, VRt K i H us as → us.any (fun kv => p kv.1) = as.any fun kv => p kv.1
  | _, _, .nil => rfl
  | _, _, .cons _ t => by rw [List.any_cons, List.any_cons, VRt.any t]
theorem VRk.repl {k : Key} {v : V} {a : AV} (h : VR K i H v a) : ∀ {us : List (Key × V)} {as : List (Key × AV)}, VRk K i H us as → VRk K i H (us.map fun kv => if kv.1 = k then (kv.1, v) else kv) (as.map fun kv => if kv.1 = k then (kv.1, a) else kv)
  | _, _, .nil => .nil
  | _, _, .cons (k := k') r t => by
    rw [List.map_cons, List.map_cons]
    by_cases e : k' = k
    · simp only [e, if_true]
      exact .cons h (VRk.repl h t)
    · simp only [e, if_false]
      exact .cons r (VRk.repl h t)
theorem VRt.repl {k : List Key} {v : V} {a : AV} (h : VR K i H v a) : ∀ {us : List (List Key × V)} {as : List (List Key × AV)}, VRt K i H us as → VRt K i H (us.map fun kv => if kv.1 = k then (kv.1, v) else kv) (as.map fun kv => if kv.1 = k then (kv.1, a) else kv)
  | _, _, .nil => .nil
  | _, _, .cons (k := k') r t => by
    rw [List.map_cons, List.map_cons]
    by_cases e : k' = k
    · simp only [e, if_true]
      exact .cons h (VRt.repl h t)
    · simp only [e, if_false]
      exact .cons r (VRt.repl h t)
theorem VRk.snoc {k : Key} {v : V} {a : AV} (h : VR K i H v a) : ∀ {us : List (Key × V)} {as : List (Key × AV)}, VRk K i H us as → VRk K i H (us ++ [(k, v)]) (as ++ [(k, a)])
  | _, _, .nil => .cons h .nil
  | _, _, .cons r t => .cons r (VRk.snoc h t)
theorem VRt.snoc {k : List Key} {v : V} {a : AV} (h : VR K i H v a) : ∀ {us : List (List Key × V)} {as : List (List Key × AV)}, VRt K i H us as → VRt K i H (us ++ [(k, v)]) (as ++ [(k, a)])
  | _, _, .nil => .cons h .nil
  | _, _, .cons r t => .cons r (VRt.snoc h t)
theorem VRk.put {k : Key} {v : V} {a : AV} {us : List (Key × V)} {as : List (Key × AV)} (h : VR K i H v a) (r : VRk K i H us as) : VRk K i H (putK us k v) (setK as k a) := by
  unfold putK setK
  rw [VRk.any (p := fun z => decide (z = k)) r]
  split
  · exact r.repl h
  · exact r.snoc h
theorem VRt.put {k : List Key} {v : V} {a : AV} {us : List (List Key × V)} {as : List (List Key × AV)} (h : VR K i H v a) (r : VRt K i H us as) : VRt K i H (putK us k v) (setK as k a) := by
  unfold putK setK
  rw [VRt.any (p := fun z => decide (z = k)) r]
  split
  · exact r.repl h
  · exact r.snoc h
theorem VRk.len : ∀ {us : List (Key × V)} {as : List (Key × AV)}, VRk K i H us as → us.length = as.length
  | _, _, .nil => rfl
  | _, _, .cons _ t => by rw [List.length_cons, List.length_cons, VRk.len t]
theorem VRt.len : ∀ {us : List (List Key × V)} {as : List (List Key × AV)}, VRt K i H us as → us.length = as.length
  | _, _, .nil => rfl
  | _, _, .cons _ t => by rw [List.length_cons, List.length_cons, VRt.len t]
end
end Mx

/-! Mx9: operators, subscripts, slices, stores, calls of built-ins, by the mirror. -/
namespace Mx
open PySem L2

theorem post.need {α β : Type} {C : Cm} {R : Ix → Hp → β → α → Prop} {i : Ix} {H : Hp} {c : Prop} [Decidable c] {r : Res α} {Q : β → Hp → Prop} {W : XK} (h : post C R i H (if c then r else .stuck) Q W) : c ∧ post C R i H r Q W := by
  by_cases hc : c
  · rw [if_pos hc] at h
    exact ⟨hc, h⟩
  · rw [if_neg hc] at h
    exact False.elim h

/-! ### arithmetic, texts, rows -/
def gAdd : AV → AV → AH → Res AV
  | .int i, .int j, M => .ok (.int (i + j)) M
  | .str x, .str y, M => sized (x.length + y.length) (.ok (.str (x ++ y)) M)
  | .tup xs, .tup ys, M => sized (xs.length + ys.length) (.ok (.tup (xs ++ ys)) M)
  | a, b, M => match lstX M a, lstX M b with
    | some xs, some ys => sized (xs.length + ys.length) (.ok (.lst (xs ++ ys)) M)
    | _, _ => .stuck
def rAddA (K : PySem.W.Frag) : R2 := fun x y H Q => rI0 (fun i j => .int (i + j)) x y H Q ∨ (∃ i j, x = .str i ∧ y = .str j ∧ i.length + j.length ≤ sizeLine ∧ Q (.str (i ++ j)) H) ∨ rCatA K x y H Q ∨ rCat x y H Q
theorem VRs.app {K : PySem.W.Frag} {i : Ix} {H : Hp} {us ws : List V} {as bs : List AV} (q : VRs K i H ws bs) : VRs K i H us as → VRs K i H (us ++ ws) (as ++ bs)
  | .nil => q
  | .cons h t => .cons h (VRs.app q t)
theorem o_cat {C : Cm} {i : Ix} {M : AH} {H : Hp} {x y : V} {a b : AV} {Q : VK} {W : XK} {f : List AV → List AV → Res AV} (s : Sim C.K i M H) (ra : VR C.K i H x a) (rb : VR C.K i H y b)
    (p : post C (RV C) i H (match lstX M a, lstX M b with | some xs, some ys => sized (xs.length + ys.length) (f xs ys) | _, _ => .stuck) Q W)
    (k : ∀ (us ws : List V) (xs ys : List AV), VRs C.K i H us xs → VRs C.K i H ws ys → post C (RV C) i H (f xs ys) Q W → ∀ q, H q = none → Q (.ref q) (upd H q (.lst (us ++ ws)))) : rCat x y H Q := by
  cases e1 : lstX M a with
  | none => rw [e1] at p; exact False.elim p
  | some xs =>
    cases e2 : lstX M b with
    | none => rw [e1, e2] at p; exact False.elim p
    | some ys =>
      rw [e1, e2] at p
      obtain ⟨p1, us, rfl, h1, r1⟩ := lstX_at s ra e1
      obtain ⟨p2, ws, rfl, h2, r2⟩ := lstX_at s rb e2
      obtain ⟨hz, p⟩ := p.sized
      exact ⟨p1, p2, us, ws, rfl, rfl, h1, h2, by rw [r1.len, r2.len]; exact hz, k us ws xs ys r1 r2 p⟩
theorem o_add {C : Cm} : Op2 C (rAddA C.K) gAdd := fun i M H x y a b Q W s ra rb p => by
  have lst : (p' : post C (RV C) i H (match lstX M a, lstX M b with | some xs, some ys => sized (xs.length + ys.length) (.ok (.lst (xs ++ ys)) M) | _, _ => .stuck) Q W) → rAddA C.K x y H Q := fun p' =>
    .inr (.inr (.inr (o_cat s ra rb p' fun us ws xs ys r1 r2 pp => new_lst s (VRs.app r2 r1) pp)))
  cases ra with
  | int k =>
    cases rb with
    | int l => exact .inl ⟨k, l, rfl, rfl, p.now s (.int _)⟩
    | _ => exact lst p
  | str k =>
    cases rb with
    | str l =>
      obtain ⟨hz, p⟩ := p.sized
      exact .inr (.inl ⟨k, l, rfl, rfl, hz, p.now s (.str _)⟩)
    | _ => exact lst p
  | @tup p1 us as h1 n1 r1 =>
    cases rb with
    | @tup p2 ws bs h2 n2 r2 =>
      obtain ⟨hz, p⟩ := p.sized
      refine .inr (.inr (.inl ⟨p1, p2, us, ws, rfl, rfl, sq_of h1, sq_of h2, by rw [r1.len, r2.len]; exact hz, fun e => ?_, fun e1 e2 => ?_, fun _ _ => new_tup s (VRs.app r2 r1) p⟩))
      · subst e
        cases r1
        exact p.now s (.tup h2 n2 r2)
      · subst e2
        cases r2
        rw [List.append_nil] at p
        exact p.now s (.tup h1 n1 r1)
    | _ => exact lst p
  | _ => exact lst p
/-- a + b, two lists: a list to be changed -/
def gCatR : AV → AV → AH → Res AV := fun a b M => match lstX M a, lstX M b with
  | some xs, some ys => sized (xs.length + ys.length) (.ok (.ref M.objs.length) ⟨M.objs ++ [.lst (xs ++ ys)], M.fz⟩)
  | _, _ => .stuck
theorem o_catR {C : Cm} : Op2 C rCat gCatR := fun i M H x y a b Q W s ra rb p => o_cat s ra rb p fun us ws xs ys r1 r2 pp => new_lstR s (VRs.app r2 r1) pp
theorem x_add {X : Cx} : OpR X (binaryOp .Add) (rAddA X.K) := op_add.or (op_add_str.or (op_catA.or op_cat))
def gSub : AV → AV → AH → Res AV
  | .int i, .int j, M => .ok (.int (i - j)) M
  | _, _, _ => .stuck
theorem o_sub {C : Cm} : Op2 C (rI0 fun i j => .int (i - j)) gSub := fun i M H x y a b Q W s ra rb p => by
  cases ra with
  | int k =>
    cases rb with
    | int l => exact ⟨k, l, rfl, rfl, p.now s (.int _)⟩
    | _ => exact False.elim p
  | _ => exact False.elim p
def mulOk (i j : Int) : Prop := (-(2 ^ 64) < i ∧ i < 2 ^ 64) ∨ (-(2 ^ 64) < j ∧ j < 2 ^ 64) ∨ (i.natAbs < 2 ^ 4000 ∧ j.natAbs < 2 ^ 4000)
instance (i j : Int) : Decidable (mulOk i j) := inferInstanceAs (Decidable (_ ∨ _ ∨ _))
def strMul (x : Str) (n : Int) : Str := ⟨((List.replicate n.toNat x.cps.toList).flatten).toArray⟩
theorem foldl_flat : ∀ (l : List (Array Nat)) (a : Array Nat), (l.foldl (· ++ ·) a) = a ++ ((l.map Array.toList).flatten).toArray
  | [], a => by simp
  | x :: l, a => by
    rw [List.foldl_cons, foldl_flat l (a ++ x)]
    apply Array.toList_inj.mp
    simp
theorem txt_mul (x : Str) (n : Int) : Txt.mul x n = strMul x n := by
  unfold Txt.mul strMul
  by_cases h : n < 1
  · rw [if_pos h]
    have e : n.toNat = 0 := by omega
    rw [e]
    rfl
  · rw [if_neg h]
    split
    · rename_i hc
      rw [Bool.or_eq_true] at hc
      rcases hc with hc | hc
      · have e : n = 1 := by simpa using hc
        subst e
        cases x
        simp
      · have e : x.cps.size = 0 := by simpa [Str.length] using hc
        have e2 : x.cps = #[] := Array.eq_empty_of_size_eq_zero e
        cases x
        simp only at e2
        subst e2
        simp
    · rw [foldl_flat]
      simp
theorem op_mul_str {X : Cx} : OpR X (binaryOp .Mult) (fun x y H Q => ∃ z n, x = .str z ∧ y = .int n ∧ (0 ≤ n ∧ n ≤ 100 ∧ z.length ≤ 1000) ∧ Q (.str (strMul z n)) H) := by
  intro pins s σ H x y v u Q I rx ry h
  obtain ⟨z, n, rfl, rfl, ⟨h0, h1, h2⟩, q⟩ := h
  obtain ⟨t, rfl⟩ := rx
  obtain ⟨t', rfl⟩ := ry
  rw [← txt_mul] at q
  refine PySem.SB.mul ⟨?_, fun h3 _ => ?_, fun h3 _ => ?_⟩ fun t' k => ⟨.str _, H, I.tok _, ⟨_, rfl⟩, q⟩
  · have a1 : decide (n < -(2 ^ 63 : Int)) = false := decide_eq_false (by omega)
    have a2 : decide (n ≥ (2 ^ 63 : Int)) = false := decide_eq_false (by omega)
    rw [a1, a2]
    rfl
  · have : (2 ^ 63 - 1 : Int) / 100 ≤ (2 ^ 63 - 1) / n := by
      have hn : 0 < n := by omega
      apply Int.le_ediv_of_mul_le hn
      have h4 : (2 ^ 63 - 1 : Int) / 100 * n ≤ (2 ^ 63 - 1 : Int) / 100 * 100 := Int.mul_le_mul_of_nonneg_left h1 (by decide)
      have h5 : (2 ^ 63 - 1 : Int) / 100 * 100 ≤ 2 ^ 63 - 1 := by decide
      omega
    have h6 : (1000 : Int) ≤ (2 ^ 63 - 1) / 100 := by decide
    omega
  · have h4 : z.length * n.toNat ≤ 1000 * 100 := Nat.mul_le_mul h2 (by omega)
    unfold Builtin.Str.tooLong
    rw [decide_eq_false]
    rw [sizeLine_eq]
    omega
def gMul : AV → AV → AH → Res AV
  | .int i, .int j, M => if mulOk i j then .ok (.int (i * j)) M else .stuck
  | .str x, .int n, M => if 0 ≤ n ∧ n ≤ 100 ∧ x.length ≤ 1000 then .ok (.str (strMul x n)) M else .stuck
  | _, _, _ => .stuck
def rMulA : R2 := fun x y H Q => rI CMul (fun i j => .int (i * j)) x y H Q ∨ rI CMulW (fun i j => .int (i * j)) x y H Q ∨ ∃ z n, x = .str z ∧ y = .int n ∧ (0 ≤ n ∧ n ≤ 100 ∧ z.length ≤ 1000) ∧ Q (.str (strMul z n)) H
theorem x_mul {X : Cx} : OpR X (binaryOp .Mult) rMulA := op_mul.or (op_mulW.or op_mul_str)
theorem o_mul {C : Cm} : Op2 C rMulA gMul := fun i M H x y a b Q W s ra rb p => by
  cases ra with
  | int k =>
    cases rb with
    | int l =>
      obtain ⟨hc, p⟩ := post.need p
      have q := p.now s (.int _)
      rcases hc with hc | hc | ⟨h1, h2⟩
      · exact .inl ⟨k, l, rfl, rfl, .inl hc, q⟩
      · exact .inl ⟨k, l, rfl, rfl, .inr hc, q⟩
      · exact .inr (.inl ⟨k, l, rfl, rfl, wide_mul h1 h2 (by decide) (by decide) (by decide), q⟩)
    | _ => exact False.elim p
  | str k =>
    cases rb with
    | int l =>
      obtain ⟨hc, p⟩ := post.need p
      exact .inr (.inr ⟨k, l, rfl, rfl, hc, p.now s (.str _)⟩)
    | _ => exact False.elim p
  | _ => exact False.elim p
def gDiv : AV → AV → AH → Res AV
  | .int i, .int j, M => if j ≠ 0 ∧ j.natAbs < 1073741824 then .ok (.int (i.fdiv j)) M else .stuck
  | _, _, _ => .stuck
theorem o_div {C : Cm} : Op2 C (rI CDivN fun i j => .int (i.fdiv j)) gDiv := fun i M H x y a b Q W s ra rb p => by
  cases ra with
  | int k =>
    cases rb with
    | int l =>
      obtain ⟨hc, p⟩ := post.need p
      exact ⟨k, l, rfl, rfl, hc, p.now s (.int _)⟩
    | _ => exact False.elim p
  | _ => exact False.elim p
def gMod : AV → AV → AH → Res AV
  | .int i, .int j, M => if j ≠ 0 then .ok (.int (i.fmod j)) M else .stuck
  | _, _, _ => .stuck
theorem o_mod {C : Cm} : Op2 C (rI (fun _ j => j ≠ 0) fun i j => .int (i.fmod j)) gMod := fun i M H x y a b Q W s ra rb p => by
  cases ra with
  | int k =>
    cases rb with
    | int l =>
      obtain ⟨hc, p⟩ := post.need p
      exact ⟨k, l, rfl, rfl, hc, p.now s (.int _)⟩
    | _ => exact False.elim p
  | _ => exact False.elim p
def gPow : AV → AV → AH → Res AV
  | .int i, .int j, M => if 0 ≤ j ∧ j ≤ 1000000 ∧ i.natAbs < 2 ^ 64 then .ok (.int (i ^ j.toNat)) M else .stuck
  | _, _, _ => .stuck
theorem o_pow {C : Cm} : Op2 C (rI CPow fun i j => .int (i ^ j.toNat)) gPow := fun i M H x y a b Q W s ra rb p => by
  cases ra with
  | int k =>
    cases rb with
    | int l =>
      obtain ⟨hc, p⟩ := post.need p
      exact ⟨k, l, rfl, rfl, hc, p.now s (.int _)⟩
    | _ => exact False.elim p
  | _ => exact False.elim p
def gNeg : AV → AH → Res AV
  | .int i, M => .ok (.int (-i)) M
  | _, _ => .stuck
theorem o_neg {C : Cm} : Op1 C (rU fun i => .int (-i)) gNeg := fun i M H x a Q W s ra p => by
  cases ra with
  | int k => exact ⟨k, rfl, p.now s (.int _)⟩
  | _ => exact False.elim p

/-! ### order -/
def gOrd (f : Int → Int → Bool) (g : List Nat → List Nat → Bool) : AV → AV → AH → Res AV
  | .int i, .int j, M => .ok (.bl (f i j)) M
  | .str x, .str y, M => .ok (.bl (g x.cps.toList y.cps.toList)) M
  | _, _, _ => .stuck
def rOrd (f : Int → Int → Bool) (g : List Nat → List Nat → Bool) : R2 := fun x y H Q => rI0 (fun i j => .bl (f i j)) x y H Q ∨ ∃ i j, x = .str i ∧ y = .str j ∧ Q (.bl (g i.cps.toList j.cps.toList)) H
theorem o_ord {C : Cm} {f : Int → Int → Bool} {g : List Nat → List Nat → Bool} : Op2 C (rOrd f g) (gOrd f g) := fun i M H x y a b Q W s ra rb p => by
  cases ra with
  | int k =>
    cases rb with
    | int l => exact .inl ⟨k, l, rfl, rfl, p.now s (.bl _)⟩
    | _ => exact False.elim p
  | str k =>
    cases rb with
    | str l => exact .inr ⟨k, l, rfl, rfl, p.now s (.bl _)⟩
    | _ => exact False.elim p
  | _ => exact False.elim p
abbrev gLt := gOrd (fun i j => decide (i < j)) (fun x y => decide (x < y))
abbrev gLe := gOrd (fun i j => decide (i ≤ j)) (fun x y => !decide (y < x))
abbrev gGt := gOrd (fun i j => decide (j < i)) (fun x y => decide (y < x))
abbrev gGe := gOrd (fun i j => decide (j ≤ i)) (fun x y => !decide (x < y))
theorem x_lt {X : Cx} : OpR X (compareOp .Lt) (rOrd (fun i j => decide (i < j)) (fun x y => decide (x < y))) := op_lt.or op_lt_str
theorem x_le {X : Cx} : OpR X (compareOp .LtE) (rOrd (fun i j => decide (i ≤ j)) (fun x y => !decide (y < x))) := op_le.or op_le_str
theorem x_gt {X : Cx} : OpR X (compareOp .Gt) (rOrd (fun i j => decide (j < i)) (fun x y => decide (y < x))) := op_gt.or op_gt_str
theorem x_ge {X : Cx} : OpR X (compareOp .GtE) (rOrd (fun i j => decide (j ≤ i)) (fun x y => !decide (x < y))) := op_ge.or op_ge_str
/-! ### a < b < c -/
def mChain (g h : AV → AV → AH → Res AV) (ma mb mc : EM) : EM := fun G M => (ma G M).bind fun a M1 => (mb G M1).bind fun b M2 => (g a b M2).bind fun r M3 => match r with
  | .bl k => if k = true then (mc G M3).bind fun c M4 => h b c M4 else .ok (.bl false) M3
  | _ => .stuck
section
variable {X : Cx} {W : WX} {pos : Pos} {a b c : Expr} {ma mb mc : EM} {r r' : R2} {g h : AV → AV → AH → Res AV} {op op' : CmpOp}
theorem chain3 {C : Cm} {σ : St} {H : Hp} {Q : VK} (hg : Op2 C r g) (hh : Op2 C r' h) (q : tE C W (mChain g h ma mb mc) σ H Q) : tChain r r' (tE C W ma) (tE C W mb) (tE C W mc) σ H Q := by
  have h1 := tM.bind (R := RV C) (m := ma) (f := fun G a M1 => (mb G M1).bind fun b M2 => (g a b M2).bind fun r M3 => match r with
    | .bl k => if k = true then (mc G M3).bind fun c M4 => h b c M4 else .ok (AV.bl false) M3
    | _ => .stuck) q
  refine tM.imp h1 fun x H1 ⟨j, G, va, M, s, er, rr, p⟩ => ?_
  refine ⟨j, G, M, s, er, (post.bind (R := RV C) p).imp (fun y H2 ⟨k, vb, M2, e, s2, ry, p2⟩ => ?_) fun _ _ _ z => z⟩
  refine hg k M2 H2 x y va vb _ _ s2 (rr.mono e) ry ((post.bind (R := RV C) p2).imp (fun z H3 ⟨l, vr, M3, e3, s3, rz, p3⟩ => ?_) fun _ _ _ z => z)
  cases vr with
  | bl k' =>
    cases rz
    refine ⟨k', rfl, ?_⟩
    cases k' with
    | true =>
      rw [if_pos rfl]
      have p3 : post C (RV C) l H3 ((mc G M3).bind fun c M4 => h vb c M4) Q (fun c d H' => W c d σ H') := p3
      refine ⟨l, G, M3, s3, (er.mono e).mono e3, (post.bind (R := RV C) p3).imp (fun w H4 ⟨n, vc, M4, e4, s4, rw', p4⟩ => ?_) fun _ _ _ z => z⟩
      exact hh n M4 H4 y w vb vc Q _ s4 ((ry.mono e3).mono e4) rw' p4
    | false =>
      rw [if_neg Bool.false_ne_true]
      exact p3.now s3 (.bl false)
  | _ => exact False.elim p3
theorem e_chain (ho : OpR X (compareOp op) r) (ho' : OpR X (compareOp op') r') (hg : Op2 (cm X) r g) (hh : Op2 (cm X) r' h) (ha : PE X a (tE (cm X) W ma)) (hb : PE X b (tE (cm X) W mb)) (hc : PE X c (tE (cm X) W mc)) (hm : lastMarks [op, op'] [b, c] = false := by with_unfolding_all rfl) : PE X (.Compare a [op, op'] [b, c] pos) (tE (cm X) W (mChain g h ma mb mc)) :=
  PE.imp (pe_chain ho ho' ha hb hc hm) fun _ _ _ q => chain3 hg hh q
theorem t_chain (ho : OpR X (compareOp op) r) (ho' : OpR X (compareOp op') r') (hg : Op2 (cm X) r g) (hh : Op2 (cm X) r' h) (ha : PE X a (tE (cm X) W ma)) (hb : PE X b (tE (cm X) W mb)) (hc : PE X c (tE (cm X) W mc)) (hm : lastMarks [op, op'] [b, c] = false := by with_unfolding_all rfl) : PT X (.Compare a [op, op'] [b, c] pos) (tB' (cm X) W (mBl (mChain g h ma mb mc))) :=
  PT.imp (pt_chain ho ho' ha hb hc hm) fun _ _ _ q => chain3 hg hh (bl_of q)
end

/-! ### is None -/
def gIsN : AV → AV → AH → Res AV
  | a, .non, M => .ok (.bl (match a with | .non => true | _ => false)) M
  | _, _, _ => .stuck
def gNotN : AV → AV → AH → Res AV
  | a, .non, M => .ok (.bl (match a with | .non => false | _ => true)) M
  | _, _, _ => .stuck
theorem o_isN {C : Cm} : Op2 C (fun x y H Q => y = .non ∧ Q (.bl (decide (x = .non))) H) gIsN := fun i M H x y a b Q W s ra rb p => by
  cases rb with
  | non =>
    refine ⟨rfl, ?_⟩
    have p := p.now s (.bl _)
    cases ra <;> exact p
  | _ => cases ra <;> exact False.elim p
theorem o_notN {C : Cm} : Op2 C (fun x y H Q => y = .non ∧ Q (.bl (!decide (x = .non))) H) gNotN := fun i M H x y a b Q W s ra rb p => by
  cases rb with
  | non =>
    refine ⟨rfl, ?_⟩
    have p := p.now s (.bl _)
    cases ra <;> exact p
  | _ => cases ra <;> exact False.elim p

/-! ### in -/
def rInDict (neg : Bool) : R2 := fun x y H Q => ∃ a ov, y = .ref a ∧ DGet H a x ov ∧ Q (.bl (if neg then !ov.isSome else ov.isSome)) H
theorem op_inDict {X : Cx} (hu : X.A.units + 1 < cLine) : OpR X (compareOp .In) (rInDict false) := by
  intro pins s σ H x y v u Q I rx ry h
  obtain ⟨a, ov, rfl, g, q⟩ := h
  cases ry
  exact d_in hu I g rx fun s' I' => ⟨.bl ov.isSome, H, I', rfl, q⟩
theorem op_notInDict {X : Cx} (hu : X.A.units + 1 < cLine) : OpR X (compareOp .NotIn) (rInDict true) := by
  intro pins s σ H x y v u Q I rx ry h
  obtain ⟨a, ov, rfl, g, q⟩ := h
  cases ry
  exact d_notIn hu I g rx fun s' I' => ⟨.bl (!ov.isSome), H, I', rfl, q⟩
/-- the items of a list, a tuple -/
def itemsOf (M : AH) : AV → Option (List AV)
  | .tup xs => some xs
  | .tuc xs => some xs
  | a => lstR M a
def inA (M : AH) (x y : AV) : Option Bool := match y with
  | .str z => match x with
    | .str w => match w.cps.toList with
      | [c] => some (decide (c ∈ z.cps.toList))
      | _ => none
    | _ => none
  | y => match dctK M y with
    | some kvs => (keyK x).map fun k => (getK kvs k).isSome
    | none => match dctT M y with
      | some kvs => (keyT x).map fun k => (getK kvs k).isSome
      | none => match itemsOf M y with
        | some xs => if plain 60 (top M x) && xs.all (plain 60) then some (xs.any fun z => aeq z (top M x)) else none
        | none => none
def gIn (neg : Bool) : AV → AV → AH → Res AV := fun x y M => match inA M x y with
  | some b => .ok (.bl (if neg then !b else b)) M
  | none => .stuck
def rSignIn (neg : Bool) : R2 := fun x y H Q => ∃ (c : Nat) (z : Str), x = .str ⟨#[c]⟩ ∧ y = .str z ∧ Q (.bl (if neg then !decide (c ∈ z.cps.toList) else decide (c ∈ z.cps.toList))) H
def rInA (K : PySem.W.Frag) (neg : Bool) : R2 := fun x y H Q => rSignIn neg x y H Q ∨ rInDict neg x y H Q ∨ rInP K neg x y H Q
theorem x_in {X : Cx} (hu : X.A.units + 64 < cLine) : OpR X (compareOp .In) (rInA X.K false) := (show OpR X (compareOp .In) (rSignIn false) from op_in_sign).or ((op_inDict (by omega)).or (op_inP hu))
theorem x_notIn {X : Cx} (hu : X.A.units + 64 < cLine) : OpR X (compareOp .NotIn) (rInA X.K true) := (show OpR X (compareOp .NotIn) (rSignIn true) from op_notIn_sign).or ((op_notInDict (by omega)).or (op_notInP hu))
theorem seqD_at {K : PySem.W.Frag} {i : Ix} {M : AH} {H : Hp} {v : V} {a : AV} {xs : List AV} (s : Sim K i M H) (r : VR K i H v a) (h : itemsOf M a = some xs) (p : xs.all (plain 60) = true) : SeqD K H v (toDs xs) := by
  by_cases ht : ∃ ys, a = .tup ys
  · obtain ⟨ys, rfl⟩ := ht
    have h' : ys = xs := Option.some.inj h
    subst h'
    cases r with
    | tup h1 _ h2 => exact .tup (sq_of h1) (dps_of _ 60 _ p h2)
  by_cases hu : ∃ ys, a = .tuc ys
  · obtain ⟨ys, rfl⟩ := hu
    have h' : ys = xs := Option.some.inj h
    subst h'
    cases r with
    | tuc h1 h2 => exact .tup h1.sq (dps_of _ 60 _ p h2)
  · have h' : lstR M a = some xs := by
      cases a <;> first | exact h | exact absurd ⟨_, rfl⟩ ht | exact absurd ⟨_, rfl⟩ hu
    obtain ⟨q, us, rfl, h1, h2⟩ := lstR_at s r h'
    exact .lst h1 (dps_of _ 60 _ p h2)
theorem any_toDs (f : PyData → Bool) : ∀ xs : List AV, (toDs xs).any f = xs.any fun x => f (toD x)
  | [] => rfl
  | x :: xs => by rw [toDs, List.any_cons, List.any_cons, any_toDs f xs]
theorem o_in {C : Cm} {neg : Bool} : Op2 C (rInA C.K neg) (gIn neg) := fun i M H x y a b Q W s ra rb p => by
  unfold gIn at p
  cases e : inA M a b with
  | none => rw [e] at p; exact False.elim p
  | some k =>
    rw [e] at p
    have q := p.now s (.bl _)
    by_cases hs : ∃ z, b = .str z
    · obtain ⟨z, rfl⟩ := hs
      cases rb
      simp only [inA] at e
      cases ra with
      | str w =>
        simp only at e
        split at e
        · rename_i c hc
          have e' := Option.some.inj e
          subst e'
          have hw : w = ⟨#[c]⟩ := by
            cases w
            congr 1
            exact Array.toList_inj.mp hc
          subst hw
          exact .inl ⟨c, z, rfl, rfl, q⟩
        · cases e
      | _ => cases e
    · have e : (match dctK M b with
        | some kvs => (keyK a).map fun k => (getK kvs k).isSome
        | none => match dctT M b with
          | some kvs => (keyT a).map fun k => (getK kvs k).isSome
          | none => match itemsOf M b with
            | some xs => if plain 60 (top M a) && xs.all (plain 60) then some (xs.any fun z => aeq z (top M a)) else none
            | none => none) = some k := by
        cases b <;> first | exact e | exact absurd ⟨_, rfl⟩ hs
      cases e1 : dctK M b with
      | some kvs =>
        rw [e1] at e
        obtain ⟨pa, n, us, rfl, _, hn, _, hd, _, hr⟩ := dctK_at s rb e1
        cases ek : keyK a with
        | none => rw [ek] at e; cases e
        | some kk =>
          rw [ek] at e
          have e' : (getK kvs kk).isSome = k := Option.some.inj e
          rw [keyK_at ra ek]
          refine .inr (.inl ⟨pa, valV us kk, rfl, .inl ⟨us, kk, hd, rfl, rfl⟩, ?_⟩)
          have : (valV us kk).isSome = k := by
            rw [← e']
            rcases hr.get (k := kk) with ⟨h1, h2⟩ | ⟨v, a', h1, h2, _⟩
            · rw [h1, h2]; rfl
            · rw [h1, h2]; rfl
          rw [this]
          exact q
      | none =>
        rw [e1] at e
        cases e2 : dctT M b with
        | some kvs =>
          simp only [e2] at e
          obtain ⟨pa, n, us, rfl, _, hn, _, hd, _, hr⟩ := dctT_at s rb e2
          cases ek : keyT a with
          | none => rw [ek] at e; cases e
          | some kk =>
            rw [ek] at e
            have e' : (getK kvs kk).isSome = k := Option.some.inj e
            obtain ⟨pb, rfl, hb⟩ := keyT_at ra ek
            refine .inr (.inl ⟨pa, valV us kk, rfl, .inr ⟨us, kk, pb, hd, rfl, hb, rfl⟩, ?_⟩)
            have : (valV us kk).isSome = k := by
              rw [← e']
              rcases hr.get (k := kk) with ⟨h1, h2⟩ | ⟨v, a', h1, h2, _⟩
              · rw [h1, h2]; rfl
              · rw [h1, h2]; rfl
            rw [this]
            exact q
        | none =>
          simp only [e2] at e
          cases e3 : itemsOf M b with
          | none => rw [e3] at e; cases e
          | some xs =>
            simp only [e3] at e
            by_cases hp : (plain 60 (top M a) && xs.all (plain 60)) = true
            · rw [if_pos hp] at e
              have e' := Option.some.inj e
              rw [Bool.and_eq_true] at hp
              refine .inr (.inr ⟨_, _, dp_top s ra hp.1, seqD_at s rb e3 hp.2, pdl_of _ _ hp.1, ?_, ?_⟩)
              · rw [toDs_map, List.all_map, List.all_eq_true]
                exact fun z hz => pdl_of _ _ (List.all_eq_true.mp hp.2 z hz)
              · rw [any_toDs]
                have : (xs.any fun z => PyData.eqv (toD z) (toD (top M a))) = k := e'
                rw [this]
                exact q
            · rw [if_neg hp] at e
              cases e
end Mx

/-! Mx10: subscripts, slices, stores, displays of dicts. -/
namespace Mx
open PySem L2 PySem.Spec

/-! ### x[i] -/
theorem VRs.ix {K : PySem.W.Frag} {i : Ix} {H : Hp} {vs : List V} {as : List AV} {k : Int} {a : AV} (r : VRs K i H vs as) (h : atI as k = some a) : ∃ v, atI vs k = some v ∧ VR K i H v a := by
  unfold atI at h ⊢
  rw [r.len]
  cases e : ixN as.length k with
  | none => rw [e] at h; cases h
  | some j =>
    rw [e] at h
    exact r.at h
def ixO (M : AH) (a b : AV) : Option AV := match dctK M a with
  | some kvs => (keyK b).bind (getK kvs)
  | none => match dctT M a with
    | some kvs => (keyT b).bind (getK kvs)
    | none => match itemsOf M a, b with
      | some xs, .int i => atI xs i
      | _, _ => none
def ixA (M : AH) : AV → AV → Option AV
  | .str z, .int i => if z.length ≤ 16777216 then (atI z.cps.toList i).map fun c => .str ⟨#[c]⟩ else none
  | a, b => ixO M a b
def gIx : AV → AV → AH → Res AV := fun a b M => match ixA M a b with
  | some v => .ok v M
  | none => .stuck
def rIxD : R2 := fun x y H Q => ∃ a v, x = .ref a ∧ DGet H a y (some v) ∧ Q v H
theorem ix_dict {X : Cx} (hu : X.A.units + 1 < cLine) : IxR X rIxD := by
  intro value slice pins s σ H x y v u Q I rx ry h hs
  obtain ⟨a, z, rfl, g, q⟩ := h
  cases rx
  exact PyProof.Rows.tail_any (dict_typeIs I g) PySem.F.slot_dict_getitem.lookup (d_getItem hu I g ry fun w' s' I' rw' => ⟨z, H, I', rw', q⟩) hs
def rIxA (K : PySem.W.Frag) : R2 := fun x y H Q => rIx K x y H Q ∨ rIxD x y H Q
theorem x_ix {X : Cx} (hu : X.A.units + 1 < cLine) : IxR X (rIxA X.K) := ix_seq.or (ix_dict hu)
theorem itemsOf_at {K : PySem.W.Frag} {i : Ix} {M : AH} {H : Hp} {v : V} {a : AV} {xs : List AV} (s : Sim K i M H) (r : VR K i H v a) (h : itemsOf M a = some xs) : ∃ p us, v = .ref p ∧ (SqL K H p us ∨ SqT K H p us) ∧ VRs K i H us xs := by
  by_cases ht : ∃ ys, a = .tup ys
  · obtain ⟨ys, rfl⟩ := ht
    have h' : ys = xs := Option.some.inj h
    subst h'
    cases r with
    | tup h1 _ h2 => exact ⟨_, _, rfl, .inr (sq_of h1), h2⟩
  by_cases hu : ∃ ys, a = .tuc ys
  · obtain ⟨ys, rfl⟩ := hu
    have h' : ys = xs := Option.some.inj h
    subst h'
    cases r with
    | tuc h1 h2 => exact ⟨_, _, rfl, .inr h1.sq, h2⟩
  · have h' : lstR M a = some xs := by
      cases a <;> first | exact h | exact absurd ⟨_, rfl⟩ ht | exact absurd ⟨_, rfl⟩ hu
    obtain ⟨q, us, rfl, h1, h2⟩ := lstR_at s r h'
    exact ⟨_, _, rfl, .inl h1, h2⟩
theorem o_ix {C : Cm} : Op2 C (rIxA C.K) gIx := fun i M H x y a b Q W s ra rb p => by
  unfold gIx at p
  cases e : ixA M a b with
  | none => rw [e] at p; exact False.elim p
  | some w =>
    rw [e] at p
    have key : ixO M a b = some w → rIxA C.K x y H Q := fun e => by
      unfold ixO at e
      cases e1 : dctK M a with
      | some kvs =>
        rw [e1] at e
        obtain ⟨pa, n, us, rfl, _, hn, _, hd, _, hr⟩ := dctK_at s ra e1
        cases ek : keyK b with
        | none => rw [ek] at e; cases e
        | some kk =>
          rw [ek] at e
          have e : getK kvs kk = some w := e
          rw [keyK_at rb ek]
          rcases hr.get (k := kk) with ⟨h1, h2⟩ | ⟨v, a', h1, h2, h3⟩
          · rw [h2] at e; cases e
          · rw [h2] at e
            cases e
            exact .inr ⟨pa, v, rfl, .inl ⟨us, kk, hd, rfl, h1.symm⟩, p.now s h3⟩
      | none =>
        rw [e1] at e
        cases e2 : dctT M a with
        | some kvs =>
          simp only [e2] at e
          obtain ⟨pa, n, us, rfl, _, hn, _, hd, _, hr⟩ := dctT_at s ra e2
          cases ek : keyT b with
          | none => rw [ek] at e; cases e
          | some kk =>
            rw [ek] at e
            have e : getK kvs kk = some w := e
            obtain ⟨pb, rfl, hb⟩ := keyT_at rb ek
            rcases hr.get (k := kk) with ⟨h1, h2⟩ | ⟨v, a', h1, h2, h3⟩
            · rw [h2] at e; cases e
            · rw [h2] at e
              cases e
              exact .inr ⟨pa, v, rfl, .inr ⟨us, kk, pb, hd, rfl, hb, h1.symm⟩, p.now s h3⟩
        | none =>
          simp only [e2] at e
          cases e3 : itemsOf M a with
          | none => rw [e3] at e; cases e
          | some xs =>
            rw [e3] at e
            cases b with
            | int k =>
              have e : atI xs k = some w := e
              cases rb
              obtain ⟨q, us, rfl, h1, h2⟩ := itemsOf_at s ra e3
              obtain ⟨v, h3, h4⟩ := h2.ix e
              rcases h1 with h1 | h1
              · exact .inl (.inl ⟨q, us, k, v, rfl, rfl, h1, h3, p.now s h4⟩)
              · exact .inl (.inr (.inl ⟨q, us, k, v, rfl, rfl, h1, h3, p.now s h4⟩))
            | _ => cases e
    by_cases hs : ∃ z k, a = .str z ∧ b = .int k
    · obtain ⟨z, k, rfl, rfl⟩ := hs
      cases ra
      cases rb
      simp only [ixA] at e
      by_cases hz : z.length ≤ 16777216
      · rw [if_pos hz] at e
        cases ec : atI z.cps.toList k with
        | none => rw [ec] at e; cases e
        | some c =>
          rw [ec] at e
          cases e
          exact .inl (.inr (.inr ⟨z, k, c, rfl, rfl, by rw [sizeLine_eq]; exact hz, ec, p.now s (.str _)⟩))
      · rw [if_neg hz] at e
        cases e
    · refine key ?_
      cases a with
      | str z =>
        cases b with
        | int k => exact absurd ⟨z, k, rfl, rfl⟩ hs
        | _ => exact e
      | _ => exact e
section
variable {X : Cx} {W : WX} {pos : Pos} {a b : Expr} {ma mb : EM}
theorem e_ix (hu : X.A.units + 1 < cLine) (ha : PE X a (tE (cm X) W ma)) (hb : PE X b (tE (cm X) W mb)) (hs : PlainIx b := by intro _ _; rfl) : PE X (.Subscript a b pos) (tE (cm X) W (mBin gIx ma mb)) :=
  PE.imp (pe_ix (x_ix hu) ha hb hs) fun _ _ _ h => bin2 o_ix h
end

/-! ### x[a:b] -/
def cutA (xs : List AV) (lo hi : Option Int) : List AV := (xs.drop (HT.sIx xs.length 0 lo)).take (HT.sIx xs.length xs.length hi - HT.sIx xs.length 0 lo)
theorem VRs.drop {K : PySem.W.Frag} {i : Ix} {H : Hp} : ∀ {vs : List V} {as : List AV} (n : Nat), VRs K i H vs as → VRs K i H (vs.drop n) (as.drop n)
  | _, _, 0, h => h
  | _, _, _ + 1, .nil => .nil
  | _, _, n + 1, .cons _ t => VRs.drop n t
theorem VRs.take {K : PySem.W.Frag} {i : Ix} {H : Hp} : ∀ {vs : List V} {as : List AV} (n : Nat), VRs K i H vs as → VRs K i H (vs.take n) (as.take n)
  | _, _, 0, _ => .nil
  | _, _, _ + 1, .nil => .nil
  | _, _, n + 1, .cons r t => .cons r (VRs.take n t)
theorem VRs.reverse {K : PySem.W.Frag} {i : Ix} {H : Hp} : ∀ {vs : List V} {as : List AV}, VRs K i H vs as → VRs K i H vs.reverse as.reverse
  | _, _, .nil => .nil
  | _, _, .cons r t => by
    rw [List.reverse_cons, List.reverse_cons]
    exact VRs.app (.cons r .nil) (VRs.reverse t)
theorem VRs.cut' {K : PySem.W.Frag} {i : Ix} {H : Hp} {vs : List V} {as : List AV} (lo hi : Option Int) (r : VRs K i H vs as) : VRs K i H (cutV vs lo hi) (cutA as lo hi) := by
  unfold cutV cutA
  rw [r.len]
  exact (r.drop _).take _
abbrev tO (C : Cm) (W : WX) (m : OM) : TO := tM C W RO m
def mNoPart : OM := fun _ M => .ok none M
def mPart (m : EM) : OM := fun G M => (m G M).bind fun a M1 => match a with
  | .int i => .ok (some i) M1
  | _ => .stuck
section
variable {X : Cx} {W : WX} {pos p2 : Pos} {e : Expr} {m : EM} {lo hi : Option Expr} {ml mh : OM}
theorem o_none : PO X none (tO (cm X) W mNoPart) := ⟨fun pins s σ H Q I ⟨i, G, M, sm, r, p⟩ => po_none.run pins s σ H Q I (p.now sm rfl)⟩
theorem o_some (h : PE X e (tE (cm X) W m)) : PO X (some e) (tO (cm X) W (mPart m)) := ⟨fun pins s σ H Q I q => (po_some h).run pins s σ H Q I (by
  have h1 := tM.bind (R := RV (cm X)) (m := m) (f := fun G a M1 => match a with | AV.int i => Res.ok (some i) M1 | _ => .stuck) q
  refine tM.imp h1 fun x H1 ⟨j, G, a, M, s, r, rr, p⟩ => ?_
  cases rr with
  | int k => exact ⟨k, rfl, p.now s rfl⟩
  | _ => exact False.elim p)⟩
def mSl (g : AV → Option Int → Option Int → AH → Res AV) (m : EM) (ml mh : OM) : EM := fun G M => (m G M).bind fun a M1 => (ml G M1).bind fun l M2 => (mh G M2).bind fun h M3 => g a l h M3
def gSl : AV → Option Int → Option Int → AH → Res AV
  | .str z, l, h, M => if z.length ≤ 16777216 then .ok (.str (cutS z l h)) M else .stuck
  | .tup xs, l, h, M => .ok (.tup (cutA xs l h)) M
  | .tuc xs, l, h, M => .ok (if HT.sIx xs.length 0 l = 0 ∧ HT.sIx xs.length xs.length h = xs.length then .tuc xs else .tup (cutA xs l h)) M
  | a, l, h, M => match lstR M a with
    | some xs => .ok (.lst (cutA xs l h)) M
    | none => .stuck
/-- .. a list that may be changed -/
def gSlR : AV → Option Int → Option Int → AH → Res AV := fun a l h M => match lstR M a with
  | some xs => .ok (.ref M.objs.length) ⟨M.objs ++ [.lst (cutA xs l h)], M.fz⟩
  | none => .stuck
def rSlAll (K : PySem.W.Frag) : V → Option Int → Option Int → Hp → VK → Prop := fun x lo hi H Q => rSlS x lo hi H Q ∨ rSlA K x lo hi H Q ∨ rSlL K x lo hi H Q
theorem x_sl : SlR X (rSlAll X.K) := SlR.or sl_str (SlR.or sl_tupA sl_list)
def Op3 (C : Cm) (r : V → Option Int → Option Int → Hp → VK → Prop) (g : AV → Option Int → Option Int → AH → Res AV) : Prop := ∀ i M H x a l h Q W, Sim C.K i M H → VR C.K i H x a → post C (RV C) i H (g a l h M) Q W → r x l h H Q
theorem cutA_whole (xs : List AV) (lo hi : Option Int) (h : HT.sIx xs.length 0 lo = 0 ∧ HT.sIx xs.length xs.length hi = xs.length) : cutA xs lo hi = xs := by
  unfold cutA
  rw [h.1, h.2, List.drop_zero, Nat.sub_zero, List.take_length]
theorem o_sl {C : Cm} : Op3 C (rSlAll C.K) gSl := fun i M H x a l h Q W s ra p => by
  have lst : (p' : post C (RV C) i H (match lstR M a with | some xs => .ok (.lst (cutA xs l h)) M | none => .stuck) Q W) → rSlAll C.K x l h H Q := fun p' => by
    cases e : lstR M a with
    | none => rw [e] at p'; exact False.elim p'
    | some xs =>
      rw [e] at p'
      obtain ⟨q, us, rfl, h1, h2⟩ := lstR_at s ra e
      exact .inr (.inr ⟨q, us, rfl, h1, new_lst s (h2.cut' l h) p'⟩)
  cases ra with
  | str z =>
    obtain ⟨hz, p⟩ := post.need p
    exact .inl ⟨z, rfl, by rw [sizeLine_eq]; exact hz, p.now s (.str _)⟩
  | @tup q us as h1 n1 r1 =>
    refine .inr (.inl ⟨q, us, rfl, sq_of h1, fun hw => ?_, fun _ => new_tup s (r1.cut' l h) p⟩)
    rw [r1.len] at hw
    have p : post C (RV C) i H (.ok (.tup (cutA as l h)) M) Q W := p
    rw [cutA_whole as l h hw] at p
    exact p.now s (.tup h1 n1 r1)
  | @tuc q us as h1 r1 =>
    have p : post C (RV C) i H (.ok (if HT.sIx as.length 0 l = 0 ∧ HT.sIx as.length as.length h = as.length then .tuc as else .tup (cutA as l h)) M) Q W := p
    refine .inr (.inl ⟨q, us, rfl, h1.sq, fun hw => ?_, fun hw => ?_⟩)
    · rw [r1.len] at hw
      rw [if_pos hw] at p
      exact p.now s (.tuc h1 r1)
    · rw [r1.len] at hw
      rw [if_neg hw] at p
      exact new_tup s (r1.cut' l h) p
  | _ => exact lst p
theorem o_slR {C : Cm} : Op3 C (rSlL C.K) gSlR := fun i M H x a l h Q W s ra p => by
  unfold gSlR at p
  cases e : lstR M a with
  | none => rw [e] at p; exact False.elim p
  | some xs =>
    rw [e] at p
    obtain ⟨q, us, rfl, h1, h2⟩ := lstR_at s ra e
    exact ⟨q, us, rfl, h1, new_lstR s (h2.cut' l h) p⟩
theorem sl3 {C : Cm} {r : V → Option Int → Option Int → Hp → VK → Prop} {g : AV → Option Int → Option Int → AH → Res AV} {σ : St} {H : Hp} {Q : VK} (hg : Op3 C r g) (q : tE C W (mSl g m ml mh) σ H Q) : tSl r (tE C W m) (tO C W ml) (tO C W mh) σ H Q := by
  have h1 := tM.bind (R := RV C) (m := m) (f := fun G a M1 => (ml G M1).bind fun l M2 => (mh G M2).bind fun h M3 => g a l h M3) q
  refine tM.imp h1 fun x H1 ⟨j, G, a, M, s, er, rr, p⟩ => ?_
  refine ⟨j, G, M, s, er, (post.bind (R := RO) p).imp (fun l H2 ⟨k, l', M2, e2, s2, rl, p2⟩ => ?_) fun _ _ _ z => z⟩
  have rl' : l = l' := rl
  subst rl'
  refine ⟨k, G, M2, s2, er.mono e2, (post.bind (R := RO) p2).imp (fun u H3 ⟨n, u', M3, e3, s3, ru, p3⟩ => ?_) fun _ _ _ z => z⟩
  have ru' : u = u' := ru
  subst ru'
  exact hg n M3 H3 x a l u Q _ s3 ((rr.mono e2).mono e3) p3
theorem e_sl (he : PE X e (tE (cm X) W m)) (hl : PO X lo (tO (cm X) W ml)) (hh : PO X hi (tO (cm X) W mh)) : PE X (.Subscript e (.Slice lo hi none p2) pos) (tE (cm X) W (mSl gSl m ml mh)) :=
  PE.imp (pe_slice x_sl he hl hh) fun _ _ _ h => sl3 o_sl h
theorem e_slR (he : PE X e (tE (cm X) W m)) (hl : PO X lo (tO (cm X) W ml)) (hh : PO X hi (tO (cm X) W mh)) : PE X (.Subscript e (.Slice lo hi none p2) pos) (tE (cm X) W (mSl gSlR m ml mh)) :=
  PE.imp (pe_slice sl_list he hl hh) fun _ _ _ h => sl3 o_slR h
end

/-! ### x[::1], x[::-1] -/
section
variable {prog : Program} {w : World} {A : Around} {E : Value → Shared → Prop} {s : Shared}
theorem slice_rev {sl : Addr} {vl vu vs : Value} {n : Nat} {Q : Int × Int × Nat → Shared → Prop} (hs : s.heap.IsSliceOf sl vl vu vs) (pl : IsPart vl none) (pu : IsPart vu none) (ps : IsPart vs (some (-1)))
    (h : Q ((n : Int) - 1, -1, n) s) : wpAny (model prog w) A (Builtin.Slice.sliceApplied (.ref sl) (pure (n : Int))) Q E s := by
  obtain ⟨os, hos, hcs, hds⟩ := id hs
  unfold Builtin.Slice.sliceApplied Builtin.Slice.sliceFields
  refine wpAny_bind (wpAny_bind (wpAny_field hos hds (x := vl) rfl (wpAny_bind (wpAny_field hos hds (x := vu) rfl (wpAny_bind (wpAny_field hos hds (x := vs) rfl (wpAny_pure ?_)))))))
  refine wpAny_bind (HT.slicePart_ ps ?_)
  show wpAny _ _ (if ((-1 : Int) == 0) = true then _ else _) _ _ s
  rw [if_neg (by decide)]
  refine wpAny_bind (HT.slicePart_ pl (wpAny_bind (HT.slicePart_ pu (wpAny_bind (wpAny_pure ?_)))))
  have e1 : Builtin.Slice.sliceAdjust none none (-1) (n : Int) = ((n : Int) - 1, -1) := by
    unfold Builtin.Slice.sliceAdjust
    simp
  have e2 : Builtin.Slice.slicePlaces ((n : Int) - 1) (-1) (-1) = n := by
    unfold Builtin.Slice.slicePlaces
    simp only [show ¬ ((-1 : Int) > 0) by omega, if_false, Int.neg_neg, Int.ediv_one]
    split <;> omega
  show wpAny _ _ (match Builtin.Slice.sliceAdjust none none (-1) (n : Int) with | (lo, hi) => pure (lo, (-1 : Int), Builtin.Slice.slicePlaces lo hi (-1))) _ _ s
  rw [e1]
  show wpAny _ _ (pure ((n : Int) - 1, (-1 : Int), Builtin.Slice.slicePlaces ((n : Int) - 1) (-1) (-1))) _ _ s
  rw [e2]
  exact wpAny_pure h
theorem pick_rev (xs : Array Value) : ((List.range xs.size).filterMap fun (m : Nat) => xs[((xs.size : Int) - 1 + (m : Int) * -1).toNat]?).toArray = xs.toList.reverse.toArray := by
  congr 1
  have e : ∀ m ∈ List.range xs.size, (fun (m : Nat) => xs[((xs.size : Int) - 1 + (m : Int) * -1).toNat]?) m = xs.toList.reverse[m]? := fun m hm => by
    have hm := List.mem_range.mp hm
    have : ((xs.size : Int) - 1 + (m : Int) * -1).toNat = xs.size - 1 - m := by omega
    show xs[((xs.size : Int) - 1 + (m : Int) * -1).toNat]? = _
    rw [this, List.getElem?_reverse (by simpa using hm)]
    simp
  have e3 : ∀ (l : List Value), (List.range l.length).filterMap (fun m => l[m]?) = l := fun l => by
    apply List.ext_getElem?
    intro k
    induction l generalizing k with
    | nil => simp
    | cons a l ih =>
      rw [List.length_cons, List.range_succ_eq_map, List.filterMap_cons]
      simp only [List.getElem?_cons_zero, List.filterMap_map]
      cases k with
      | zero => simp
      | succ k =>
        simp only [List.getElem?_cons_succ]
        have := ih k
        simpa [Function.comp_def] using this
  have h2 := e3 xs.toList.reverse
  rw [List.length_reverse, Array.length_toList] at h2
  rw [← h2]
  have : ∀ (l : List Nat) (f g : Nat → Option Value), (∀ m ∈ l, f m = g m) → l.filterMap f = l.filterMap g := fun l f g h => by
    induction l with
    | nil => rfl
    | cons a l ih =>
      rw [List.filterMap_cons, List.filterMap_cons, h a List.mem_cons_self, ih fun m hm => h m (List.mem_cons_of_mem _ hm)]
  rw [h2]
  refine (this _ _ _ e).trans h2
open PyProof.Rows in
theorem getItem_tuple_rev {t sl : Addr} {items : Array Value} {vl vu vs : Value} {Q : Value → Shared → Prop} (ht : IsTup s.heap t items) (hs : s.heap.IsSliceOf sl vl vu vs) (pl : IsPart vl none) (pu : IsPart vu none) (ps : IsPart vs (some (-1)))
    (h : Q (.ref s.heap.objs.size) { s with heap := s.heap.push { cls := .type "tuple", data := .seq items.toList.reverse.toArray } })
    (hsz : items.size ≤ sizeLine) : wpAny (model prog w) A (getItem (.ref t) (.ref sl)) Q E s := by
  have htake : sizeOk (.seq items.toList.reverse.toArray) := by
    show items.toList.reverse.toArray.size ≤ sizeLine
    rw [List.size_toArray, List.length_reverse, Array.length_toList]
    exact hsz
  obtain ⟨os, hos, hcs, hds⟩ := id hs
  have hTs : s.TypeIs (.ref sl) "slice" := ⟨os, hos, hcs⟩
  unfold getItem
  try with_reducible refine wpAny_holding ?_
  first | refine wpAny_bind (wpAny_pure ?_) | skip
  refine wpAny_bind (wpAny_sequenceKey ht.typeIs (by decide) ?_)
  refine wpAny_bind (wpAny_callSpecial?_slot (name := Str.ofString "__getitem__") ht.typeIs PyProof.Rows.slot_tuple_getitem
    (wpAny_call_entry PyProof.Rows.slot_tuple_getitem ht.typeIs PyProof.Rows.entry_tuple_getitem ?_ (PyProof.Rows.args_tuple_getitem _ _)))
  show wpAny _ _ (Builtin.Tuple.tupleItemsOf (.ref t) >>= _) _ _ s
  refine wpAny_bind (PyProof.Rows.tupleItemsOf_ ht ?_)
  refine wpAny_bind (wpAny_typeOf hTs ?_)
  rw [if_pos (by decide)]
  refine wpAny_bind (slice_rev hs pl pu ps ?_)
  have hno : ¬ ((((items.size : Int) - 1 == 0) && ((-1 : Int) == 1) && (items.size == items.size)) = true) := by
    intro q
    rw [Bool.and_eq_true, Bool.and_eq_true] at q
    exact absurd q.1.2 (by decide)
  show wpAny _ _ (if (((items.size : Int) - 1 == 0) && ((-1 : Int) == 1) && (items.size == items.size)) = true then _ else _) _ _ s
  rw [if_neg hno, pick_rev]
  first
    | exact wpAny_bind (m := Builtin.Tuple.tupleExact _) (wpAny_newObj_type (wpAny_pure ⟨_, rfl, wpAny_pure h⟩) htake)
    | exact wpAny_bind (m := Builtin.Tuple.tupleExact _) (wpAny_newObj_type (wpAny_bind (wpAny_pure (wpAny_pure ⟨_, rfl, wpAny_pure h⟩))) htake)
    | exact wpAny_bind (wpAny_bind (m := Builtin.Tuple.tupleExact _) (wpAny_newObj_type (wpAny_pure (wpAny_pure ⟨_, rfl, wpAny_pure h⟩)) htake))
    | exact wpAny_bind (wpAny_bind (m := Builtin.Tuple.tupleExact _) (wpAny_newObj_type (wpAny_pure ⟨_, rfl, wpAny_pure h⟩) htake))
end
/-- x[::k], k 1 or -1 -/
def rStep (K : PySem.W.Frag) : R2 := fun x y H Q => ∃ (a : Addr) (xs : List V), x = .ref a ∧ ((SqL K H a xs ∧ ((y = .int 1 ∧ ∀ p, H p = none → Q (.ref p) (upd H p (.lst xs))) ∨ (y = .int (-1) ∧ ∀ p, H p = none → Q (.ref p) (upd H p (.lst xs.reverse))))) ∨
  (SqT K H a xs ∧ y = .int (-1) ∧ ∀ p, H p = none → Q (.ref p) (upd H p (.tup xs.reverse))))
theorem slicePick_one (items : Array Value) : slicePick items none none (some 1) = items := by
  have h := slicePick_cut items.toList none none
  have e : slicePick items none none (some 1) = slicePick items.toList.toArray none none none := by
    simp [slicePick, sliceBounds]
  rw [e, h]
  simp only [HT.sIx, List.drop_zero, Nat.sub_zero, List.take_length]
theorem pe_step {X : Cx} {e st : Expr} {te ts : TE} {p3 pos : Pos} (he : PE X e te) (hst : PE X st ts) : PE X (.Subscript e (.Slice none none (some st) p3) pos) (tOp (rStep X.K) te ts) := by
  refine ⟨fun pins s σ H Q I h => ?_⟩
  refine PyProof.Rows.Subscript_ (thn (he.run pins s σ H _ I h) fun v s1 ⟨x, H1, I1, r1, q1⟩ => ?_)
  refine wpAny_Slice (thn (po_none.run pins s1 σ H1 (fun o H2 => o = none ∧ H2 = H1) I1 ⟨rfl, rfl⟩) fun vl s2 ⟨l, H2, I2, pl, el, e2⟩ => ?_)
  subst el e2
  refine thn (po_none.run pins s2 σ H2 (fun o H3 => o = none ∧ H3 = H2) I2 ⟨rfl, rfl⟩) fun vu s3 ⟨u, H3, I3, pu, eu, e3⟩ => ?_
  subst eu e3
  rw [evalPart_some]
  refine thn (hst.run pins s3 σ H3 _ I3 q1) fun vs s4 ⟨y, H4, I4, r4, q4⟩ => ?_
  obtain ⟨a, xs, rfl, q4⟩ := q4
  cases r1
  have I5 : Inv X pins σ H4 { s4 with heap := s4.heap.push { cls := .type "slice", data := .fields #[vl, vu, vs] } } := I4.kept (t' := s4.toks) fun b ob q => Heap.get?_push_of_some _ q
  show wpAny (model X.prog X.w) X.A (PyProof.Rows.subscriptTail e (.Slice none none (some st) p3) (.ref a) (.ref s4.heap.objs.size)) (EP X pins σ Q) X.xe { s4 with heap := s4.heap.push { cls := .type "slice", data := .fields #[vl, vu, vs] } }
  rcases q4 with ⟨hx, q4⟩ | ⟨hx, rfl, q⟩
  · obtain ⟨its, r, ht, hz⟩ := I5.list hx
    have hlen := r.length
    refine PyProof.Rows.tail_any (ops := [.ref a, .ref s4.heap.objs.size]) ht.isList.typeIs (PySem.slot_list_getitem.lookup) ?_ (by with_unfolding_all rfl)
    rcases q4 with ⟨rfl, q⟩ | ⟨rfl, q⟩
    · obtain ⟨t, rfl⟩ := r4
      refine wpAny_getItem_list_slice ht.isList (Heap.IsSliceOf.new _ vl vu _) pl pu (.int 1 t) (by decide) ?_ (by rw [List.size_toArray]; omega)
      rw [slicePick_one]
      refine ⟨.ref _, _, I5.laid (t' := s4.toks) (o := .lst xs) (fun b ob q => Heap.get?_push_of_some _ q) (Nat.le_refl _) ?_, rfl, q _ (I5.hok.fresh (Nat.le_refl _))⟩
      exact ⟨hz, _, 0, r, Heap.get?_push_size _ rfl⟩
    · obtain ⟨t, rfl⟩ := r4
      refine wpAny_getItem_list_slice ht.isList (Heap.IsSliceOf.new _ vl vu _) pl pu (.int (-1) t) (by decide) ?_ (by rw [List.size_toArray]; omega)
      rw [PySem.W.krv_pick]
      refine ⟨.ref _, _, I5.laid (t' := s4.toks) (o := .lst xs.reverse) (fun b ob q => Heap.get?_push_of_some _ q) (Nat.le_refl _) ?_, rfl, q _ (I5.hok.fresh (Nat.le_refl _))⟩
      exact ⟨by rw [List.length_reverse]; exact hz, _, 0, r.reverse, Heap.get?_push_size _ rfl⟩
  · obtain ⟨its, r, ht, hz⟩ := I5.tuple hx
    have hlen := r.length
    obtain ⟨t, rfl⟩ := r4
    refine PyProof.Rows.tail_any (ops := [.ref a, .ref s4.heap.objs.size]) ht.typeIs (PyProof.Rows.slot_tuple_getitem.lookup) ?_ (by with_unfolding_all rfl)
    refine getItem_tuple_rev ht (Heap.IsSliceOf.new _ vl vu _) pl pu (.int (-1) t) ?_ (by rw [List.size_toArray]; omega)
    refine ⟨.ref _, _, I5.laid (t' := s4.toks) (o := .tup xs.reverse) (fun b ob q => Heap.get?_push_of_some _ q) (Nat.le_refl _) ?_, rfl, q _ (I5.hok.fresh (Nat.le_refl _))⟩
    exact ⟨by rw [List.length_reverse]; exact hz, _, r.reverse, PyProof.Rows.IsTup.new _ _⟩
def gStep : AV → AV → AH → Res AV := fun a b M => match b with
  | .int k => match a with
    | .tup xs => if k = -1 then .ok (.tup xs.reverse) M else .stuck
    | a => match lstR M a with
      | some xs => if k = 1 then .ok (.lst xs) M else if k = -1 then .ok (.lst xs.reverse) M else .stuck
      | none => .stuck
  | _ => .stuck
theorem o_step {C : Cm} : Op2 C (rStep C.K) gStep := fun i M H x y a b Q W s ra rb p => by
  cases rb with
  | int k =>
    have lst : (p' : post C (RV C) i H (match lstR M a with
      | some xs => if k = 1 then .ok (.lst xs) M else if k = -1 then .ok (.lst xs.reverse) M else .stuck
      | none => .stuck) Q W) → rStep C.K x (.int k) H Q := fun p' => by
      cases e : lstR M a with
      | none => rw [e] at p'; exact False.elim p'
      | some xs =>
        rw [e] at p'
        obtain ⟨q, us, rfl, h1, h2⟩ := lstR_at s ra e
        by_cases h : k = 1
        · subst h
          exact ⟨q, us, rfl, .inl ⟨h1, .inl ⟨rfl, new_lst s h2 p'⟩⟩⟩
        · simp only [if_neg h] at p'
          obtain ⟨h, p'⟩ := post.need p'
          subst h
          exact ⟨q, us, rfl, .inl ⟨h1, .inr ⟨rfl, new_lst s h2.reverse p'⟩⟩⟩
    cases ra with
    | @tup q us as h1 n1 r1 =>
      obtain ⟨h, p⟩ := post.need p
      subst h
      exact ⟨q, us, rfl, .inr ⟨sq_of h1, rfl, new_tup s r1.reverse p⟩⟩
    | _ => exact lst p
  | _ => exact False.elim p
section
variable {X : Cx} {W : WX} {pos p2 p3 : Pos} {e st : Expr} {m n : EM}
theorem e_step (he : PE X e (tE (cm X) W m)) (hs : PE X st (tE (cm X) W n)) : PE X (.Subscript e (.Slice none none (some st) p3) pos) (tE (cm X) W (mBin gStep m n)) :=
  PE.imp (pe_step he hs) fun _ _ _ h => bin2 o_step h
end

/-! ### x[i] = v -/
def aSet (a b v : AV) (M : AH) : Option AH := match a with
  | .ref n => match M.objs[n]? with
    | some (.lst xs) => match b with
      | .int k => (ixN xs.length k).map fun j => ⟨M.objs.set n (.lst (xs.set j v)), M.fz⟩
      | _ => none
    | some (.dK kvs) => if n ∈ M.fz ∨ ¬ kvs.length < 16777216 then none else (keyK b).map fun k => ⟨M.objs.set n (.dK (setK kvs k v)), M.fz⟩
    | some (.dT kvs) => if n ∈ M.fz ∨ ¬ kvs.length < 16777216 then none else (keyT b).map fun k => ⟨M.objs.set n (.dT (setK kvs k v)), M.fz⟩
    | _ => none
  | _ => none
def gPut (mo mi : EM) : TMt := fun v G M => match mo G M with
  | .ok a M1 => match mi G M1 with
    | .ok b M2 => match aSet a b v M2 with
      | some M3 => .ok G M3
      | none => .stuck
    | _ => .stuck
  | _ => .stuck
def rPut : TSet := fun o i v H Q => rSetL o i v H Q ∨ rSetD o i v H Q
theorem x_put {X : Cx} (hu : X.A.units + 1 < cLine) : PSet X rPut := by
  intro pins s σ H o i v ov iv u Q I ro ri rv h
  rcases h with h | h
  · exact set_list pins s σ H o i v ov iv u Q I ro ri rv h
  · exact set_dict hu pins s σ H o i v ov iv u Q I ro ri rv h
theorem VRs.set {K : PySem.W.Frag} {i : Ix} {H : Hp} {v : V} {a : AV} (h : VR K i H v a) : ∀ {vs : List V} {as : List AV} (j : Nat), VRs K i H vs as → VRs K i H (vs.set j v) (as.set j a)
  | _, _, _, .nil => .nil
  | _, _, 0, .cons _ t => .cons h t
  | _, _, j + 1, .cons r t => .cons r (VRs.set h j t)
theorem aSet_at {C : Cm} {i : Ix} {M M' : AH} {H : Hp} {x y z : V} {a b c : AV} {Q : Hp → Prop} (s : Sim C.K i M H) (ra : VR C.K i H x a) (rb : VR C.K i H y b) (rc : VR C.K i H z c) (h : aSet a b c M = some M')
    (q : ∀ H', Ext i i H H' → Sim C.K i M' H' → Q H') : rPut x y z H Q := by
  cases ra with
  | @ref p n hn =>
    obtain ⟨d, hd, o⟩ := s.get hn
    simp only [aSet, hd] at h
    have e0 : ∀ {u}, H p = some u → (∀ o u', u ≠ .frz o u') → ∀ o', Ext i i H (upd H p o') := fun hu hz o' => Ext.mut (List.mem_of_getElem? hn) fun o u' z => by rw [hu] at z; exact hz _ _ (Option.some.inj z)
    have hl : sizeLine = 16777216 := sizeLine_eq
    cases o with
    | @lst us xs h1 h2 =>
      cases b with
      | int k =>
        cases rb
        cases ej : ixN xs.length k with
        | none => simp only [ej, Option.map_none] at h; cases h
        | some j =>
          simp only [ej, Option.map_some, Option.some.injEq] at h
          subst h
          refine .inl ⟨p, us, k, j, rfl, rfl, h1, by rw [h2.len]; exact ej, q _ (e0 h1 (fun _ _ z => by cases z) _) (s.set hn (.lst upd_same ((h2.set rc j).mono (e0 h1 (fun _ _ z => by cases z) _))) (fun m _ hm => hm) (Sim.same (s.nofz hn h1 fun _ _ z => by cases z)))⟩
      | _ => cases h
    | @dK us xs h1 h2 =>
      by_cases hg : n ∈ M.fz ∨ ¬ xs.length < 16777216
      · simp only [if_pos hg] at h; cases h
      · simp only [if_neg hg] at h
        rw [not_or, Decidable.not_not] at hg
        cases ek : keyK b with
        | none => simp only [ek, Option.map_none] at h; cases h
        | some k =>
          simp only [ek, Option.map_some, Option.some.injEq] at h
          subst h
          have hp : H p = some (.dK us) := by
            rcases h1 with h1 | ⟨h0, _⟩
            · exact h1
            · exact absurd h0 hg.1
          refine .inr ⟨p, _, rfl, .inl ⟨us, k, hp, keyK_at rb ek, by rw [h2.len, hl]; exact hg.2, rfl⟩, q _ (e0 hp (fun _ _ z => by cases z) _) (s.set hn (.dK (.inl upd_same) ((VRk.put rc h2).mono (e0 hp (fun _ _ z => by cases z) _))) (fun m _ hm => hm) (Sim.same hg.1))⟩
    | @dT us xs h1 h2 =>
      by_cases hg : n ∈ M.fz ∨ ¬ xs.length < 16777216
      · simp only [if_pos hg] at h; cases h
      · simp only [if_neg hg] at h
        rw [not_or, Decidable.not_not] at hg
        cases ek : keyT b with
        | none => simp only [ek, Option.map_none] at h; cases h
        | some k =>
          simp only [ek, Option.map_some, Option.some.injEq] at h
          subst h
          have hp : H p = some (.dT us) := by
            rcases h1 with h1 | ⟨h0, _⟩
            · exact h1
            · exact absurd h0 hg.1
          obtain ⟨pb, eb, hb⟩ := keyT_at rb ek
          refine .inr ⟨p, _, rfl, .inr ⟨us, k, pb, hp, eb, hb, by rw [h2.len, hl]; exact hg.2, rfl⟩, q _ (e0 hp (fun _ _ z => by cases z) _) (s.set hn (.dT (.inl upd_same) ((VRt.put rc h2).mono (e0 hp (fun _ _ z => by cases z) _))) (fun m _ hm => hm) (Sim.same hg.1))⟩
  | _ => cases h
section
variable {X : Cx} {W : WX} {pos : Pos} {o i : Expr} {mo mi : EM}
/-- the target's expressions raise nothing here -/
theorem g_put (hu : X.A.units + 1 < cLine) (ho : PE X o (tE (cm X) W0 mo)) (hi : PE X i (tE (cm X) W0 mi))
    (ha : ∀ v, assign (.Subscript o i pos) X.env v = (do
      let ov ← holding [v] (eval o X.env)
      let iv ← holding [v, ov] (eval i X.env)
      standAt pos
      holding [v, ov, iv] (setItem ov iv v)
      release [v, ov, iv] []) := by intro _; rfl) : PG X (.Subscript o i pos) (tG (cm X) (gPut mo mi)) :=
  PG.imp (pg_sub ho hi (x_put hu) ha) fun v σ H Q ⟨k, G, M, c, s, r, rv, p⟩ => by
    unfold gPut at p
    refine ⟨k, G, M, s, r, ?_⟩
    cases e1 : mo G M with
    | stuck => rw [e1] at p; exact p
    | exc cl fs M1 => rw [e1] at p; exact False.elim p
    | ok a M1 =>
      simp only [e1] at p
      intro x j H1 ee1 s1 ra
      refine ⟨j, G, M1, s1, r.mono ee1, ?_⟩
      cases e2 : mi G M1 with
      | stuck => simp only [e2] at p; exact p
      | exc cl fs M2 => simp only [e2] at p; exact False.elim p
      | ok b M2 =>
        simp only [e2] at p
        intro y j2 H2 ee2 s2 rb
        cases e3 : aSet a b c M2 with
        | none => simp only [e3] at p; exact False.elim p
        | some M3 =>
          simp only [e3] at p
          exact aSet_at s2 (ra.mono ee2) rb ((rv.mono ee1).mono ee2) e3 fun H3 ee3 s3 => p σ j2 H3 ((ee1.trans ee2).trans ee3) s3 (((r.mono ee1).mono ee2).mono ee3)
end

/-! ### {..} -/
/-- the pairs of a display: text keys, values -/
abbrev KM := Env → AH → Res (List (Key × AV))
def kNil : KM := fun _ M => .ok [] M
def kCons (k : Key) (m : EM) (n : KM) : KM := fun G M => (m G M).bind fun a M1 => (n G M1).bind fun r M2 => .ok ((k, a) :: r) M2
end Mx

/-! Mx11: displays of dicts; len, isinstance, repr, list, tuple, ord, all, any, append, join. -/
namespace Mx
open PySem L2 PySem.Spec

/-! ### {..} -/
abbrev RK (C : Cm) : Ix → Hp → List (Key × V) → List (Key × AV) → Prop := fun i H v a => VRk C.K i H v a
structure PD (X : Cx) (W : WX) (pos : Pos) (keys : List (Option Expr)) (values : List Expr) (n : KM) : Prop where
  at' : ∃ trs, PPs X pos keys values trs ∧ ∀ σ H Q, tM (cm X) W (RK (cm X)) n σ H Q → tPairs trs σ H fun ps H' => ∃ kvs : List (Key × V), ps = kvs.map (fun kv => (kV kv.1, kv.2)) ∧ Q kvs H'
theorem tPairs_imp : ∀ (trs : List (TE × TE)) {σ : L2.St} {H : Hp} {Q Q' : List (V × V) → Hp → Prop}, (∀ t ∈ trs, (∀ σ H Q Q', (∀ v H', Q v H' → Q' v H') → t.1 σ H Q → t.1 σ H Q') ∧ ∀ σ H Q Q', (∀ v H', Q v H' → Q' v H') → t.2 σ H Q → t.2 σ H Q') → (∀ v H', Q v H' → Q' v H') → tPairs trs σ H Q → tPairs trs σ H Q'
  | [], _, _, _, _, _, f, h => f _ _ h
  | t :: r, σ, H, Q, Q', m, f, h => (m t List.mem_cons_self).1 _ _ _ _ (fun x H1 h1 => (m t List.mem_cons_self).2 _ _ _ _ (fun y H2 h2 => tPairs_imp r (fun t' ht => m t' (List.mem_cons_of_mem _ ht)) (fun ps H3 h3 => f _ _ h3) h2) h1) h
section
variable {X : Cx} {W : WX} {pos : Pos} {ks : List (Option Expr)} {vs : List Expr} {n : KM} {m : EM} {v : Expr}
theorem d_nil : PD X W pos [] [] kNil := ⟨[], pps_nil, fun σ H Q ⟨i, G, M, s, r, p⟩ => ⟨[], rfl, p.now s .nil⟩⟩
theorem d_cons {x : Str} {j : Nat} {p : Pos} (hv : PE X v (tE (cm X) W m)) (hr : PD X W pos ks vs n) : PD X W pos (some (.Constant (.str x) j p) :: ks) (v :: vs) (kCons (.inr x) m n) := by
  obtain ⟨trs, h1, h2⟩ := hr
  refine ⟨(tC (.str x), tE (cm X) W m) :: trs, pps_cons pe_str hv h1, fun σ H Q h => ?_⟩
  have h3 := tM.bind (R := RV (cm X)) (m := m) (f := fun G a M1 => (n G M1).bind fun r M2 => .ok (((Sum.inr x : Key), a) :: r) M2) h
  refine tM.imp h3 fun y H1 ⟨k, G, a, M, s, r, rr, p⟩ => ?_
  have h4 : tM (cm X) W (RK (cm X)) n σ H1 (fun kvs H2 => Q ((Sum.inr x, y) :: kvs) H2) := ⟨k, G, M, s, r, (post.bind (R := RK (cm X)) p).imp (fun kvs H2 ⟨l, as, M2, e2, s2, rs, p2⟩ => p2.now s2 (.cons (rr.mono e2) rs)) fun _ _ _ z => z⟩
  have h5 := h2 σ H1 _ h4
  -- the rest's pairs
  have go : ∀ (trs : List (TE × TE)) (h1 : True) (H1 : Hp), tPairs trs σ H1 (fun ps H' => ∃ kvs : List (Key × V), ps = kvs.map (fun kv => (kV kv.1, kv.2)) ∧ Q ((Sum.inr x, y) :: kvs) H') → True := fun _ _ _ _ => trivial
  exact h5 |> fun h5 => by
    refine cast ?_ h5
    congr 1
    funext ps H3
    apply propext
    constructor
    · rintro ⟨kvs, rfl, q⟩
      exact ⟨(Sum.inr x, y) :: kvs, rfl, q⟩
    · rintro ⟨kvs, e, q⟩
      cases kvs with
      | nil => cases e
      | cons kv kvs =>
        rw [List.map_cons] at e
        injection e with e1 e2
        obtain ⟨k', v'⟩ := kv
        injection e1 with e3 e4
        have e5 : kV (Sum.inr x) = kV k' := e3
        cases kV_inj e5
        subst e4
        exact ⟨kvs, e2, q⟩
end
def mergeA (kvs : List (Key × AV)) : List (Key × AV) := kvs.foldl (fun acc kv => setK acc kv.1 kv.2) []
theorem VRk.merge {K : PySem.W.Frag} {i : Ix} {H : Hp} : ∀ {us : List (Key × V)} {as : List (Key × AV)} {u0 : List (Key × V)} {a0 : List (Key × AV)}, VRk K i H us as → VRk K i H u0 a0 → VRk K i H (us.foldl (fun acc kv => putK acc kv.1 kv.2) u0) (as.foldl (fun acc kv => setK acc kv.1 kv.2) a0)
  | _, _, _, _, .nil, h => h
  | _, _, _, _, .cons r t, h => by
    rw [List.foldl_cons, List.foldl_cons]
    exact VRk.merge t (h.put r)
section
variable {C : Cm} {i j : Ix} {M : AH} {H H2 : Hp} {p : Addr} {o o' : HO}
/-- what was hidden gets its number, with other content -/
theorem unhide {c : AV} (e : Ext (i.hide p) j (upd H p o) H2) (s : Sim C.K j M H2) (hn : H p = none) (hs : ∀ a, a ∈ i.prv → H a ≠ none)
    (ho : ∀ k H3, Carry j k H2 H3 → H3 p = some o' → OR C.K k H3 p False c) :
    Ext i ((j.show p).push p) H (upd H2 p o') ∧ Sim C.K ((j.show p).push p) ⟨M.objs ++ [c], M.fz⟩ (upd H2 p o') ∧ VR C.K ((j.show p).push p) (upd H2 p o') (.ref p) (.ref M.objs.length) := by
  have hp : p ∈ j.prv := e.prv p List.mem_cons_self
  have hD := (s.sep p hp).1
  have hprv : ∀ a, a ∈ (j.show p).prv → a ≠ p := fun a ha => of_decide_eq_true (List.mem_filter.mp ha).2
  have ca : Carry j ((j.show p).push p) H2 (upd H2 p o') := ⟨fun n a e => by
    show (j.num ++ [p])[n]? = some a
    rw [List.getElem?_append_left (List.getElem?_eq_some_iff.mp e).1]
    exact e, fun a u hn' e => by
      have ne : a ≠ p := fun z => hn' (z ▸ .inr hp)
      refine ⟨by rw [upd_ne ne]; exact e, fun z => ?_⟩
      rcases z with z | z
      · rcases List.mem_append.mp z with z | z
        · exact hn' (.inl z)
        · exact ne (List.mem_singleton.mp z)
      · exact hn' (.inr (List.mem_filter.mp z).1)⟩
  have hor := ho _ _ ca (upd_same (H := H2))
  refine ⟨⟨?_, fun a ha => ?_, fun a ha hi => ?_, fun a ha hi => ?_, fun a u hi ha => ?_, fun a o u ha => (by
    have ne : a ≠ p := fun z => by rw [z, hn] at ha; cases ha
    rw [upd_ne ne]
    exact e.fro a o u (by rw [upd_ne ne]; exact ha))⟩, ⟨?_, ?_, fun a ha => ⟨fun z => ?_, ?_⟩, fun n a d h1 h2 => ?_, fun a ha us => (by rw [upd_ne (hprv a ha)]; exact s.nt a (List.mem_filter.mp ha).1 us), fun n hn => (by
    obtain ⟨a, h1, o, u, h2⟩ := s.fzl n hn
    have ne : a ≠ p := fun z => hD (z ▸ List.mem_of_getElem? h1)
    refine ⟨a, ?_, o, u, by rw [upd_ne ne]; exact h2⟩
    show (j.num ++ [p])[n]? = some a
    rw [List.getElem?_append_left (List.getElem?_eq_some_iff.mp h1).1]
    exact h1)⟩, .ref ?_⟩
  · obtain ⟨l, q⟩ := e.app
    have q : j.num = i.num ++ l := q
    exact ⟨l ++ [p], by show j.num ++ [p] = _; rw [q, List.append_assoc]⟩
  · exact List.mem_filter.mpr ⟨e.prv a (List.mem_cons_of_mem _ ha), decide_eq_true fun z => hs a ha (z ▸ hn)⟩
  · have ne := hprv a ha
    have q := e.hid a (List.mem_filter.mp ha).1 (Ix.hide_not hi ne)
    rw [upd_ne ne] at q
    exact q
  · rcases List.mem_append.mp ha with z | z
    · have q := e.new a z hi
      by_cases ne : a = p
      · rw [ne]; exact hn
      · rw [upd_ne ne] at q
        exact q
    · rw [List.mem_singleton.mp z]
      exact hn
  · have ne : a ≠ p := fun z => by rw [z, hn] at ha; cases ha
    rw [upd_ne ne]
    exact e.keep a u hi (by rw [upd_ne ne]; exact ha)
  · show (j.num ++ [p]).length = (M.objs ++ [_]).length
    simp [s.len]
  · show (j.num ++ [p]).Nodup
    rw [List.nodup_append]
    exact ⟨s.nd, by simp, fun a ha b hb z => hD (by rw [List.mem_singleton.mp hb] at z; exact z ▸ ha)⟩
  · rcases List.mem_append.mp z with z | z
    · exact (s.sep a (List.mem_filter.mp ha).1).1 z
    · exact hprv a ha (List.mem_singleton.mp z)
  · rw [upd_ne (hprv a ha)]
    exact (s.sep a (List.mem_filter.mp ha).1).2
  · have h1 : (j.num ++ [p])[n]? = some a := h1
    have h2 : (M.objs ++ [c])[n]? = some d := h2
    by_cases hl : n < j.num.length
    · rw [List.getElem?_append_left hl] at h1
      rw [List.getElem?_append_left (by rw [← s.len]; exact hl)] at h2
      exact (s.obj n a d h1 h2).carry ca (upd_ne fun z => hD (z ▸ List.mem_of_getElem? h1))
    · have hl2 := (List.getElem?_eq_some_iff.mp h1).1
      simp only [List.length_append, List.length_cons, List.length_nil] at hl2
      have e3 : n = j.num.length := by omega
      subst e3
      have q1 : a = p := by
        simp at h1
        exact h1.symm
      have q2 : d = c := by
        rw [s.len] at h2
        simp at h2
        exact h2.symm
      rw [q1, q2]
      cases hor with
      | lst a1 a2 => exact .lst a1 a2
      | dK a1 a2 => exact .dK (a1.imp id fun z => z.1.elim) a2
      | dT a1 a2 => exact .dT (a1.imp id fun z => z.1.elim) a2
  · show (j.num ++ [p])[M.objs.length]? = some p
    rw [← s.len]
    simp
end
def mDisp (n : KM) : EM := fun G M => (n G M).bind fun kvs M1 => if kvs.length ≤ 15 then .ok (.ref M1.objs.length) ⟨M1.objs ++ [.dK (mergeA kvs)], M1.fz⟩ else .stuck
def mDictK : EM := fun _ M => .ok (.ref M.objs.length) ⟨M.objs ++ [.dK []], M.fz⟩
def mDictT : EM := fun _ M => .ok (.ref M.objs.length) ⟨M.objs ++ [.dT []], M.fz⟩
section
variable {X : Cx} {W : WX} {pos : Pos} {ks : List (Option Expr)} {vs : List Expr} {n : KM}
theorem e_disp (h : PD X W pos ks vs n) (h0 : ks ≠ [] := by intro z; cases z) (hall : ks.all (·.isSome) = true := by rfl) (hl : ks.length = vs.length := by rfl) (h15 : ks.length ≤ 15 := by decide) : PE X (.Dict ks vs pos) (tE (cm X) W (mDisp n)) := by
  obtain ⟨trs, h1, h2⟩ := h
  refine PE.imp (pe_disp h1 hall hl h0 h15) fun σ H Q ⟨i, G, M, s, r, q⟩ p hp => ?_
  have hh : tM (cm X) W (RK (cm X)) n σ (upd H p (.dK [])) (fun kvs H' => H' p = some (.dK []) ∧ kvs.length ≤ 15 ∧ Q (.ref p) (upd H' p (.dK (mergeK [] kvs)))) := by
    refine ⟨i.hide p, G, M, s.hide hp, r.carry (Carry.hide hp), ?_⟩
    unfold mDisp at q
    cases e : n G M with
    | stuck =>
      rw [e] at q
      exact q
    | exc c fs M1 =>
      rw [e] at q
      intro cls d j H' ee s' x
      -- the hidden dict is dropped: it stays hidden
      have q : post (cm X) (RV (cm X)) i H (.exc c fs M1) Q (fun c d H' => W c d σ H') := q
      obtain ⟨A, q1, q2, dx, us, q3, q4, q5, q6⟩ := x
      refine q cls d j H' ⟨?_, fun a ha => ee.prv a (List.mem_cons_of_mem _ ha), fun a ha hi => ?_, fun a ha hi => ?_, fun a u hi ha => ?_, fun a o u ha => (by
        have ne : a ≠ p := fun z => by rw [z, hp] at ha; cases ha
        exact ee.fro a o u (by rw [upd_ne ne]; exact ha))⟩ s' ⟨A, q1, q2, dx, us, q3, q4, q5, q6⟩
      · exact ee.app
      · by_cases ne : a = p
        · rw [ne]; exact hp
        · have z := ee.hid a ha (Ix.hide_not hi ne)
          rw [upd_ne ne] at z
          exact z
      · by_cases ne : a = p
        · rw [ne]; exact hp
        · have z := ee.new a ha hi
          rw [upd_ne ne] at z
          exact z
      · have ne : a ≠ p := fun z => by rw [z, hp] at ha; cases ha
        exact ee.keep a u hi (by rw [upd_ne ne]; exact ha)
    | ok kvs M1 =>
      rw [e] at q
      obtain ⟨hk, q⟩ := post.need q
      intro us j H' ee s' rk
      have hpn : p ∈ j.prv := ee.prv p List.mem_cons_self
      have hpn' : p ∉ (i.hide p).num := fun z => s.notin hp (.inl z)
      have h3 : H' p = some (.dK []) := ee.keep p _ hpn' upd_same
      obtain ⟨a1, a2, a3⟩ := unhide (C := cm X) (c := .dK (mergeA kvs)) (o' := .dK (mergeK [] us)) ee s' hp (fun a ha => (s.sep a ha).2) fun k H3 ca hh => .dK (.inl hh) (VRk.merge (rk.carry ca) .nil)
      exact ⟨h3, by rw [rk.len]; exact hk, q _ _ _ a1 a2 a3⟩
  have h5 := h2 σ _ _ hh
  refine cast ?_ h5
  congr 1
  funext ps H3
  apply propext
  constructor
  · rintro ⟨kvs, e1, e2, e3, e4⟩
    exact ⟨e2, kvs, e1, e3, e4⟩
  · rintro ⟨e2, kvs, e1, e3, e4⟩
    exact ⟨kvs, e1, e2, e3, e4⟩
theorem e_dictK : PE X (.Dict [] [] pos) (tE (cm X) W mDictK) := PE.imp pe_dnewK fun σ H Q ⟨i, G, M, s, r, p⟩ q hq =>
  p _ (i.push q) _ (Ext.push hq) (s.push hq (.dK (.inl upd_same) .nil)) (.ref (by rw [← s.len]; simp [Ix.push]))
theorem e_dictT : PE X (.Dict [] [] pos) (tE (cm X) W mDictT) := PE.imp pe_dnewT fun σ H Q ⟨i, G, M, s, r, p⟩ q hq =>
  p _ (i.push q) _ (Ext.push hq) (s.push hq (.dT (.inl upd_same) .nil)) (.ref (by rw [← s.len]; simp [Ix.push]))
end

/-! ### len -/
theorem call_lenK {X : Cx} : CallR X (.builtin "len") (fun xs H Q => ∃ a kvs, xs = [V.ref a] ∧ Rd H a (.dK kvs) ∧ Q (.int kvs.length) H) := by
  intro pins s σ H xs us Q I r h
  obtain ⟨a, kvs, rfl, e, q⟩ := h
  obtain rfl := Vals.ref1 r
  exact d_len I e fun t s' I' => ⟨.int kvs.length, H, I', ⟨_, rfl⟩, q⟩
def isFz (M : AH) : AV → Bool
  | .ref n => decide (n ∈ M.fz)
  | _ => false
def gLenO (M : AH) (a : AV) : Res AV := match dctK M a with
  | some kvs => .ok (.int kvs.length) M
  | none => match dctT M a with
    | some kvs => if isFz M a = true then .stuck else .ok (.int kvs.length) M
    | none => match itemsOf M a with
      | some xs => .ok (.int xs.length) M
      | none => .stuck
def gLen1 (M : AH) : AV → Res AV
  | .str z => sized z.length (.ok (.int z.length) M)
  | a => gLenO M a
def gLen : List AV → AH → Res AV
  | [a], M => gLen1 M a
  | _, _ => .stuck
def rLenA (X : Cx) : List V → Hp → VK → Prop := fun xs H Q => (∃ z, xs = [V.str z] ∧ z.length ≤ sizeLine ∧ Q (.int z.length) H) ∨ (∃ p ys, xs = [V.ref p] ∧ (SqL X.K H p ys ∨ SqT X.K H p ys) ∧ Q (.int ys.length) H) ∨
  (∃ a kvs, xs = [V.ref a] ∧ Rd H a (.dK kvs) ∧ Q (.int kvs.length) H) ∨ rLenT xs H Q
theorem x_len {X : Cx} : CallR X (.builtin "len") (rLenA X) := CallR.or call_len_str (CallR.or call_len_seq (CallR.or call_lenK call_len_dT))
theorem VRs.one {K : PySem.W.Frag} {i : Ix} {H : Hp} {xs : List V} {a : AV} (r : VRs K i H xs [a]) : ∃ x, xs = [x] ∧ VR K i H x a := by
  cases r with
  | cons r t => cases t; exact ⟨_, rfl, r⟩
theorem VRs.two {K : PySem.W.Frag} {i : Ix} {H : Hp} {xs : List V} {a b : AV} (r : VRs K i H xs [a, b]) : ∃ x y, xs = [x, y] ∧ VR K i H x a ∧ VR K i H y b := by
  cases r with
  | cons r t =>
    obtain ⟨y, rfl, q⟩ := t.one
    exact ⟨_, _, rfl, r, q⟩
theorem o_len {X : Cx} : OpC (cm X) (rLenA X) gLen := fun i M H xs as Q W s r p => by
  match as, r, p with
  | [], _, p => exact False.elim p
  | _ :: _ :: _, _, p => exact False.elim p
  | [a], r, p =>
    obtain ⟨x, rfl, rx⟩ := r.one
    by_cases hs : ∃ z, a = .str z
    · obtain ⟨z, rfl⟩ := hs
      cases rx
      obtain ⟨hz, p⟩ := p.sized
      exact .inl ⟨z, rfl, hz, p.now s (.int _)⟩
    · have p : post (cm X) (RV (cm X)) i H (gLenO M a) Q W := by
        cases a <;> first | exact p | exact absurd ⟨_, rfl⟩ hs
      unfold gLenO at p
      cases e1 : dctK M a with
      | some kvs =>
        rw [e1] at p
        obtain ⟨pa, n, us, rfl, _, hn, _, hd, _, hr⟩ := dctK_at s rx e1
        refine .inr (.inr (.inl ⟨pa, us, rfl, hd, ?_⟩))
        rw [hr.len]
        exact p.now s (.int _)
      | none =>
        rw [e1] at p
        cases e2 : dctT M a with
        | none =>
          simp only [e2] at p
          cases e3 : itemsOf M a with
          | none => rw [e3] at p; exact False.elim p
          | some xs =>
            rw [e3] at p
            obtain ⟨q, us, rfl, h1, h2⟩ := itemsOf_at s rx e3
            refine .inr (.inl ⟨q, us, rfl, h1, ?_⟩)
            rw [h2.len]
            exact p.now s (.int _)
        | some kvs =>
          simp only [e2] at p
          obtain ⟨pa, n', us, rfl, en, hn, _, _, hd, hr⟩ := dctT_at s rx e2
          subst en
          by_cases hf : n' ∈ M.fz
          · have e4 : isFz M (.ref n') = true := decide_eq_true hf
            rw [if_pos e4] at p; exact False.elim p
          · have e4 : ¬ isFz M (.ref n') = true := fun z => hf (of_decide_eq_true z)
            rw [if_neg e4] at p
            refine .inr (.inr (.inr ⟨pa, us, rfl, hd hf, ?_⟩))
            rw [hr.len]
            exact p.now s (.int _)

/-! ### isinstance(x, T), T a built-in type -/
def tyN (M : AH) : AV → Option String
  | .non => some "NoneType"
  | .bl _ => some "bool"
  | .int _ => some "int"
  | .str _ => some "str"
  | .tup _ => some "tuple"
  | .lst _ => some "list"
  | .fro _ => some "list"
  | .tuc _ => some "tuple"
  | .dK _ => none
  | .dT _ => none
  | .ref n => match M.objs[n]? with
    | some (.lst _) => some "list"
    | some (.dK _) => some "dict"
    | some (.dT _) => if n ∈ M.fz then none else some "dict"
    | _ => none
def isiB (a b : String) : Bool := a == b || (a == "bool" && b == "int")
def tyNames : List String := ["NoneType", "bool", "int", "str", "tuple", "list", "dict"]
theorem isi_all : (tyNames.all fun a => ["bool", "int", "str", "tuple", "list", "dict"].all fun b => decide (kitB a b = some (isiB a b))) = true := by decide +kernel
theorem isi_one {a b : String} (ha : a ∈ tyNames) (hb : b ∈ ["bool", "int", "str", "tuple", "list", "dict"]) : kitB a b = some (isiB a b) := of_decide_eq_true (List.all_eq_true.mp (List.all_eq_true.mp isi_all a ha) b hb)
theorem tyN_mem {M : AH} {a : AV} {t : String} (h : tyN M a = some t) : t ∈ tyNames := by
  cases a with
  | ref n =>
    simp only [tyN] at h
    split at h
    · cases h; decide
    · cases h; decide
    · split at h
      · cases h
      · cases h; decide
    · cases h
  | dK _ => cases h
  | dT _ => cases h
  | _ => cases h; decide
theorem tyN_at {K : PySem.W.Frag} {i : Ix} {M : AH} {H : Hp} {v : V} {a : AV} {t : String} (s : Sim K i M H) (r : VR K i H v a) (h : tyN M a = some t) : TyX K H v (.type t) := by
  cases r with
  | non => cases h; exact .base .non
  | bl b => cases h; exact .base (.bl b)
  | int b => cases h; exact .base (.int b)
  | str b => cases h; exact .base (.str b)
  | tup h1 _ _ => cases h; exact .base (.tup h1)
  | lst h1 _ _ => cases h; exact .base (.lst h1)
  | fro h1 _ =>
    cases h
    rcases h1 with ⟨h1 | ⟨o, h1⟩, _⟩ | ⟨o, its, n, h1, h2, _⟩
    · exact .base (.lst h1)
    · exact .base (.frz h1)
    · exact .kList h1 h2
  | tuc h1 _ =>
    cases h
    rcases h1 with ⟨⟨o, h1, _⟩, _⟩ | ⟨o, its, n, h1, h2, _⟩
    · exact .fTuple h1
    · exact .kTuple h1 h2
  | @ref p n hn =>
    obtain ⟨c, hc, o⟩ := s.get hn
    simp only [tyN, hc] at h
    cases o with
    | lst h1 _ => cases h; exact .base (.lst h1)
    | dK h1 _ =>
      cases h
      rcases h1 with h1 | ⟨_, o, h1⟩
      · exact .base (.dK h1)
      · exact .fDict h1
    | dT h1 _ =>
      have h : (if n ∈ M.fz then none else some "dict") = some t := h
      split at h
      · cases h
      · rename_i hf
        cases h
        rcases h1 with h1 | ⟨h0, _⟩
        · exact .base (.dT h1)
        · exact absurd h0 hf
def gIsi (T : String) : AV → AH → Res AV := fun a M => match tyN M a with
  | some t => .ok (.bl (isiB t T)) M
  | none => .stuck
theorem e_isi {X : Cx} {W : WX} {pos p p2 : Pos} {e : Expr} {m : EM} {x : Str} {T : String} (he : PE X e (tE (cm X) W m)) (hT : T ∈ ["bool", "int", "str", "tuple", "list", "dict"]) (hg : Gl X "isinstance") (hm : X.mg "isinstance" = none) (hgT : Gl X x) (hmT : X.mg x = none) (hvT : bootBuiltins x = some (.type T))
    (hn : x ≠ "__name__" := by decide) (hd : (x == ("__debug__" : Str)) = false := by decide) (h1 : starEach [e, .Name x p2] X.env = (false, eval e X.env) :: starEach [.Name x p2] X.env := by rfl) (h2 : starEach [.Name x p2] X.env = (false, eval (.Name x p2) X.env) :: starEach [] X.env := by rfl)
    (hpl : (backTo pos (starEach [.Name x p2] X.env)).any (·.1) = false := by rfl) (hv : bootBuiltins "isinstance" = some (.builtin "isinstance") := by kernel_rfl) : PE X (.Call (.Name "isinstance" p) [e, .Name x p2] [] pos) (tE (cm X) W (mUn (gIsi T) m)) :=
  PE.imp (pe_callB call_isi hg hm hv (pa_cons he (pa_cons (pe_bltn hgT hmT hvT (v := .ty T) rfl hn hd) pa_nil h2) h1) (by decide) (by decide) h1 hpl) fun σ H Q h => by
    have h1 := tM.bind (R := RV (cm X)) (m := m) (f := fun G a M1 => gIsi T a M1) h
    refine tM.imp h1 fun v H1 ⟨j, G, a, M, s, r, rr, q⟩ => ?_
    unfold gIsi at q
    cases e1 : tyN M a with
    | none => rw [e1] at q; exact False.elim q
    | some t =>
      rw [e1] at q
      exact ⟨v, .ty T, .type t, .type T, isiB t T, rfl, .ty T, tyN_at s rr e1, kit_ty (isi_one (tyN_mem e1) hT), q.now s (.bl _)⟩

/-! ### repr of data -/
mutual
theorem pdl_depth : ∀ (d : PyData) (n : Nat), pdl n d = true → d.depth ≤ n ∧ d.hasDict = false
  | .none, n, _ => ⟨by simp [PyData.depth], by simp [PyData.hasDict]⟩
  | .bool _, n, _ => ⟨by simp [PyData.depth], by simp [PyData.hasDict]⟩
  | .int _, n, _ => ⟨by simp [PyData.depth], by simp [PyData.hasDict]⟩
  | .str _, n, _ => ⟨by simp [PyData.depth], by simp [PyData.hasDict]⟩
  | .list xs, 0, h => by cases h
  | .tuple xs, 0, h => by cases h
  | .list xs, n + 1, h => by
    obtain ⟨h1, h2⟩ := pdls_depth xs n h
    exact ⟨by simp only [PyData.depth]; omega, by simp only [PyData.hasDict]; exact h2⟩
  | .tuple xs, n + 1, h => by
    obtain ⟨h1, h2⟩ := pdls_depth xs n h
    exact ⟨by simp only [PyData.depth]; omega, by simp only [PyData.hasDict]; exact h2⟩
  | .dict _, n, h => by cases n <;> cases h
theorem pdls_depth : ∀ (ds : List PyData) (n : Nat), ds.all (pdl n) = true → PyData.depthAll ds ≤ n ∧ PyData.hasDictAll ds = false
  | [], n, _ => ⟨by simp [PyData.depthAll], by simp [PyData.hasDictAll]⟩
  | d :: ds, n, h => by
    rw [List.all_cons, Bool.and_eq_true] at h
    obtain ⟨h1, h2⟩ := pdl_depth d n h.1
    obtain ⟨h3, h4⟩ := pdls_depth ds n h.2
    exact ⟨by simp only [PyData.depthAll]; omega, by simp only [PyData.hasDictAll, h2, h4]; rfl⟩
end
def rRepr (K : PySem.W.Frag) : List V → Hp → VK → Prop := fun xs H Q => ∃ x d, xs = [x] ∧ Dp K H x d ∧ pdl 60 d = true ∧ d.showable = true ∧ d.shown.length ≤ sizeLine ∧ Q (.str d.shown) H
theorem call_reprD {X : Cx} (hu : X.A.units + 64 < cLine) (hg : X.A.guards = some []) : CallR X (.builtin "repr") (rRepr X.K) := by
  intro pins s σ H xs us Q I r h
  obtain ⟨x, d, rfl, hd, pd, hs, hz, q⟩ := h
  obtain ⟨u, rfl, rx⟩ := vals1 r
  cases hd with
  | non => cases rx; exact PySem.P.repr_of_none ⟨.str _, H, I.tok _, ⟨_, rfl⟩, q⟩
  | bl b => cases rx; exact PySem.P.repr_of_bool ⟨.str _, H, I.tok _, ⟨_, rfl⟩, q⟩
  | int k =>
    obtain ⟨t, rfl⟩ := rx
    refine PySem.P.repr_of_int (by simpa [PyData.showable] using hs) ⟨.str _, H, I.tok _, ⟨_, rfl⟩, q⟩
  | str z =>
    obtain ⟨t, rfl⟩ := rx
    exact PySem.P.repr_of_str ⟨.str _, H, I.tok _, ⟨_, rfl⟩, q⟩ hz
  | @lst a ys ds h1 h2 =>
    cases rx
    obtain ⟨as, rd⟩ := Dp.reads I _ _ _ (.lst h1 h2) rfl
    obtain ⟨e1, e2⟩ := pdl_depth _ _ pd
    exact repr_of_reads' rd hs (fun z => by rw [e2] at z; cases z) hg (by omega) (fun b o e => e) (fun h' u tk hk => ⟨.str _, H, I.kept hk, ⟨_, rfl⟩, q⟩) hz
  | @tup a ys ds h1 h2 =>
    cases rx
    obtain ⟨as, rd⟩ := Dp.reads I _ _ _ (.tup h1 h2) rfl
    obtain ⟨e1, e2⟩ := pdl_depth _ _ pd
    exact repr_of_reads' rd hs (fun z => by rw [e2] at z; cases z) hg (by omega) (fun b o e => e) (fun h' u tk hk => ⟨.str _, H, I.kept hk, ⟨_, rfl⟩, q⟩) hz
/-- what repr shows -/
def shw (a : AV) : Str := (toD a).shown
def gRepr : List AV → AH → Res AV
  | [a], M => if plain 60 (top M a) = true ∧ (toD (top M a)).showable = true ∧ (shw (top M a)).length ≤ 16777216 then .ok (.str (shw (top M a))) M else .stuck
  | _, _ => .stuck
theorem o_repr {C : Cm} : OpC C (rRepr C.K) gRepr := fun i M H xs as Q W s r p => by
  match as, r, p with
  | [], _, p => exact False.elim p
  | _ :: _ :: _, _, p => exact False.elim p
  | [a], r, p =>
    obtain ⟨x, rfl, rx⟩ := r.one
    obtain ⟨⟨h1, h2, h3⟩, p⟩ := post.need p
    exact ⟨x, _, rfl, dp_top s rx h1, pdl_of _ _ h1, h2, by rw [sizeLine_eq]; exact h3, p.now s (.str _)⟩
end Mx

/-! Mx12: methods of lists and texts; calls of built-ins. -/
namespace Mx
open PySem L2 PySem.Spec

/-! ### o.m(..) -/
def OpM (C : Cm) (r : V → List V → Hp → VK → Prop) (g : AV → List AV → AH → Res AV) : Prop := ∀ i M H x xs a as Q W, Sim C.K i M H → VR C.K i H x a → VRs C.K i H xs as → post C (RV C) i H (g a as M) Q W → r x xs H Q
def mMeth (ty : AH → AV → Bool) (g : AV → List AV → AH → Res AV) (m : EM) (n : AM) : EM := fun G M => (m G M).bind fun a M1 => if ty M1 a = true then (n G M1).bind fun as M2 => g a as M2 else .stuck
def mMeth0 (ty : AH → AV → Bool) (g : AV → List AV → AH → Res AV) (m : EM) : EM := fun G M => (m G M).bind fun a M1 => if ty M1 a = true then g a [] M1 else .stuck
def TyOk (C : Cm) (T : String) (ty : AH → AV → Bool) : Prop := ∀ i M H v a, Sim C.K i M H → VR C.K i H v a → ty M a = true → tyV C.K T v H
section
variable {X : Cx} {W : WX} {o e : Expr} {es : List Expr} {m : EM} {n : AM} {name : Str} {apos cpos : Pos} {T id : String} {r : V → List V → Hp → VK → Prop} {ty : AH → AV → Bool} {g : AV → List AV → AH → Res AV}
theorem e_meth (pa : PlainAttrs T) (slot : Slot T name id) (hty : typeOf (.builtin id) = pure (.type "method_descriptor")) (hm : MtR X id r) (ht : TyOk (cm X) T ty) (hg : OpM (cm X) r g) (ho : PE X o (tE (cm X) W m)) (ha : PA X (e :: es) (tA (cm X) W n))
    (hbase : attributeBase o name X.env (eval o X.env) = eval o X.env := by rfl)
    (hfew : ((backTo cpos (starEach (e :: es) X.env)).all (fun x => !x.1) && (backToKw cpos (keywordEach [] X.env)).all (fun x => x.1.isSome)
      && decide ((e :: es).length + ([] : List Keyword).length + (if ([] : List Keyword).isEmpty then 0 else 1) < 30)) = true := by rfl)
    (hline : (apos.endLine == cpos.line) = true := by rfl) (hs : starEach (e :: es) X.env = (false, eval e X.env) :: starEach es X.env := by rfl) (hplain : (backTo cpos (starEach es X.env)).any (·.1) = false := by rfl) :
    PE X (.Call (.Attribute o name apos) (e :: es) [] cpos) (tE (cm X) W (mMeth ty g m n)) :=
  PE.imp (pe_bm pa slot hty hm ho ha hbase hfew hline hs hplain) fun σ H Q h => by
    have h1 := tM.bind (R := RV (cm X)) (m := m) (f := fun G a M1 => if ty M1 a = true then (n G M1).bind fun as M2 => g a as M2 else .stuck) h
    refine tM.imp h1 fun x H1 ⟨j, G, a, M, s, er, rr, p⟩ => ?_
    obtain ⟨hc, p⟩ := post.need p
    refine ⟨ht j M H1 x a s rr hc, j, G, M, s, er, (post.bind (R := RVs (cm X)) p).imp (fun xs H2 ⟨k, as, M2, e2, s2, rs, p2⟩ => ?_) fun _ _ _ z => z⟩
    exact hg k M2 H2 x xs a as Q _ s2 (rr.mono e2) rs p2
theorem e_meth0 (pa : PlainAttrs T) (slot : Slot T name id) (hty : typeOf (.builtin id) = pure (.type "method_descriptor")) (hm : MtR X id r) (ht : TyOk (cm X) T ty) (hg : OpM (cm X) r g) (ho : PE X o (tE (cm X) W m))
    (hbase : attributeBase o name X.env (eval o X.env) = eval o X.env := by rfl) (hline : (apos.endLine == cpos.line) = true := by rfl) : PE X (.Call (.Attribute o name apos) [] [] cpos) (tE (cm X) W (mMeth0 ty g m)) :=
  PE.imp (pe_bm0 pa slot hty hm ho hbase hline) fun σ H Q h => by
    have h1 := tM.bind (R := RV (cm X)) (m := m) (f := fun G a M1 => if ty M1 a = true then g a [] M1 else .stuck) h
    refine tM.imp h1 fun x H1 ⟨j, G, a, M, s, er, rr, p⟩ => ?_
    obtain ⟨hc, p⟩ := post.need p
    exact ⟨ht j M H1 x a s rr hc, hg j M H1 x [] a [] Q _ s rr .nil p⟩
end
def tyL (M : AH) (a : AV) : Bool := (lstR M a).isSome
def tyS (M : AH) : AV → Bool
  | .str _ => true
  | _ => false
theorem ty_l {C : Cm} : TyOk C "list" tyL := fun i M H v a s r h => by
  unfold tyL at h
  cases e : lstR M a with
  | none => rw [e] at h; cases h
  | some xs =>
    obtain ⟨p, us, rfl, h1, h2⟩ := lstR_at s r e
    exact .inl ⟨rfl, us, h1⟩
theorem ty_s {C : Cm} : TyOk C "str" tyS := fun i M H v a s r h => by
  cases r with
  | str z => exact rfl
  | _ => cases h

/-! ### methods of a list that may be changed -/
def setL (M : AH) (n : Nat) (xs : List AV) : AH := ⟨M.objs.set n (.lst xs), M.fz⟩
theorem setL_at {C : Cm} {i : Ix} {M : AH} {H : Hp} {n : Nat} {p : Addr} {us : List V} {xs : List AV} (s : Sim C.K i M H) (hn : i.num[n]? = some p) (r : VRs C.K i H us xs) {us0 : List V} (hp : H p = some (.lst us0)) : Ext i i H (upd H p (.lst us)) ∧ Sim C.K i (setL M n xs) (upd H p (.lst us)) := by
  have e : Ext i i H (upd H p (.lst us)) := Ext.mut (List.mem_of_getElem? hn) (fun o u z => by rw [hp] at z; cases z)
  exact ⟨e, s.set hn (.lst upd_same (r.mono e)) (fun m _ hm => hm) (Sim.same (s.nofz hn hp fun _ _ z => by cases z))⟩
def gAppend : AV → List AV → AH → Res AV
  | .ref n, [y], M => match M.objs[n]? with
    | some (.lst xs) => sized (xs.length + 1) (.ok .non (setL M n (xs ++ [y])))
    | _ => .stuck
  | _, _, _ => .stuck
theorem o_append {C : Cm} : OpM C rAppend gAppend := fun i M H x vs a as Q W s ra rs p => by
  cases ra with
  | @ref q n hn =>
    match as, rs, p with
    | [], _, p => exact False.elim p
    | _ :: _ :: _, _, p => exact False.elim p
    | [b], rs, p =>
      obtain ⟨y, rfl, ry⟩ := rs.one
      obtain ⟨c, hc, o⟩ := s.get hn
      simp only [gAppend, hc] at p
      cases o with
      | lst h1 h2 =>
        obtain ⟨hz, p⟩ := p.sized
        obtain ⟨e, s'⟩ := setL_at s hn (VRs.snoc ry h2) h1
        exact ⟨q, _, y, rfl, rfl, h1, by rw [h2.len]; omega, p _ i _ e s' .non⟩
      | dK _ _ => exact False.elim p
      | dT _ _ => exact False.elim p
  | _ => exact False.elim p
def gExtend : AV → List AV → AH → Res AV
  | .ref n, [b], M => match M.objs[n]?, lstX M b with
    | some (.lst xs), some ys => sized (xs.length + ys.length) (.ok .non (setL M n (xs ++ ys)))
    | _, _ => .stuck
  | _, _, _ => .stuck
theorem o_extend {C : Cm} : OpM C rExtend gExtend := fun i M H x vs a as Q W s ra rs p => by
  cases ra with
  | @ref q n hn =>
    match as, rs, p with
    | [], _, p => exact False.elim p
    | _ :: _ :: _, _, p => exact False.elim p
    | [b], rs, p =>
      obtain ⟨y, rfl, ry⟩ := rs.one
      obtain ⟨c, hc, o⟩ := s.get hn
      simp only [gExtend, hc] at p
      cases o with
      | lst h1 h2 =>
        cases e : lstX M b with
        | none => simp only [e] at p; exact False.elim p
        | some ys =>
          simp only [e] at p
          obtain ⟨hz, p⟩ := p.sized
          obtain ⟨pb, us, rfl, h3, h4⟩ := lstX_at s ry e
          obtain ⟨e', s'⟩ := setL_at s hn (VRs.app h4 h2) h1
          exact ⟨q, pb, _, us, rfl, rfl, h1, h3, by rw [h2.len, h4.len]; exact hz, p _ i _ e' s' .non⟩
      | dK _ _ => exact False.elim p
      | dT _ _ => exact False.elim p
  | _ => exact False.elim p
theorem VRs.dropLast {K : PySem.W.Frag} {i : Ix} {H : Hp} : ∀ {vs : List V} {as : List AV}, VRs K i H vs as → VRs K i H vs.dropLast as.dropLast
  | _, _, .nil => .nil
  | _, _, .cons r .nil => .nil
  | _, _, .cons r (.cons r2 t) => .cons r (VRs.dropLast (.cons r2 t))
theorem VRs.eraseIdx {K : PySem.W.Frag} {i : Ix} {H : Hp} : ∀ {vs : List V} {as : List AV} (j : Nat), VRs K i H vs as → VRs K i H (vs.eraseIdx j) (as.eraseIdx j)
  | _, _, _, .nil => .nil
  | _, _, 0, .cons _ t => t
  | _, _, j + 1, .cons r t => .cons r (VRs.eraseIdx j t)
def gPop : AV → List AV → AH → Res AV
  | .ref n, [], M => match M.objs[n]? with
    | some (.lst xs) => match xs[xs.length - 1]? with
      | some y => .ok y (setL M n xs.dropLast)
      | none => .stuck
    | _ => .stuck
  | .ref n, [.int i], M => match M.objs[n]? with
    | some (.lst xs) => match ixN xs.length i with
      | some k => match xs[k]? with
        | some y => .ok y (setL M n (xs.eraseIdx k))
        | none => .stuck
      | none => .stuck
    | _ => .stuck
  | _, _, _ => .stuck
theorem sizeL {C : Cm} {X : Cx} {pins : List (Addr × Obj)} {σ : L2.St} {H : Hp} {s : Shared} {p : Addr} {xs : List V} (I : Inv X pins σ H s) (h : H p = some (.lst xs)) : xs.length ≤ sizeLine := (I.lstM h).1
/-- pop at any place, by the place in the row -/
def rPopN : V → List V → Hp → VK → Prop := fun x vs H Q => ∃ l xs i k y, x = .ref l ∧ vs = [.int i] ∧ H l = some (.lst xs) ∧ ixN xs.length i = some k ∧ xs[k]? = some y ∧ Q y (upd H l (.lst (xs.eraseIdx k)))
theorem mt_popN {X : Cx} : MtR X "list.pop" rPopN := fun pins s σ H x xs v us Q I rx rs h => by
  obtain ⟨l, ys, i, k, y, rfl, rfl, hl, hk, hy, q⟩ := h
  obtain ⟨h1, h2, h3, h4⟩ := ixN_seq hk
  have hz := (I.lstM hl).1
  have hn := line63
  exact mt_popAt pins s σ H _ _ v us Q I rx rs ⟨l, ys, i, k, y, rfl, rfl, hl, by omega, by omega, h1, hy, q⟩
def rPopA : V → List V → Hp → VK → Prop := fun x xs H Q => rPop x xs H Q ∨ rPopN x xs H Q
theorem x_pop {X : Cx} : MtR X "list.pop" rPopA := MtR.or mt_pop mt_popN
theorem o_pop {C : Cm} : OpM C rPopA gPop := fun i M H x vs a as Q W s ra rs p => by
  cases ra with
  | @ref q n hn =>
    obtain ⟨c, hc, o⟩ := s.get hn
    match as, rs, p with
    | [], rs, p =>
      cases rs
      simp only [gPop, hc] at p
      cases o with
      | @lst us xs h1 h2 =>
        cases e : xs[xs.length - 1]? with
        | none => simp only [e] at p; exact False.elim p
        | some y =>
          simp only [e] at p
          obtain ⟨v, h3, h4⟩ := h2.at e
          obtain ⟨e', s'⟩ := setL_at s hn h2.dropLast h1
          exact .inl ⟨q, us, v, rfl, rfl, h1, by rw [h2.len]; exact h3, p _ i _ e' s' (h4.mono e')⟩
      | dK _ _ => exact False.elim p
      | dT _ _ => exact False.elim p
    | [b], rs, p =>
      obtain ⟨y, rfl, ry⟩ := rs.one
      cases ry with
      | int k =>
        simp only [gPop, hc] at p
        cases o with
        | @lst us xs h1 h2 =>
          cases e : ixN xs.length k with
          | none => simp only [e] at p; exact False.elim p
          | some j =>
            simp only [e] at p
            cases e2 : xs[j]? with
            | none => simp only [e2] at p; exact False.elim p
            | some y =>
              simp only [e2] at p
              obtain ⟨v, h3, h4⟩ := h2.at e2
              obtain ⟨e', s'⟩ := setL_at s hn (h2.eraseIdx j) h1
              exact .inr ⟨q, us, k, j, v, rfl, rfl, h1, by rw [h2.len]; exact e, h3, p _ i _ e' s' (h4.mono e')⟩
        | dK _ _ => exact False.elim p
        | dT _ _ => exact False.elim p
      | _ => exact False.elim p
    | b :: _ :: _, _, p => cases b <;> exact False.elim p
  | _ => exact False.elim p
def gInsert : AV → List AV → AH → Res AV
  | .ref n, [.int k, y], M => match M.objs[n]? with
    | some (.lst xs) => if 0 ≤ k ∧ k < 2 ^ 62 ∧ xs.length < 16777216 then .ok .non (setL M n (xs.take k.toNat ++ [y] ++ xs.drop k.toNat)) else .stuck
    | _ => .stuck
  | _, _, _ => .stuck
def rInsert : V → List V → Hp → VK → Prop := fun x vs H Q => ∃ (l : Addr) (xs : List V) (i : Int) (y : V), x = .ref l ∧ vs = [.int i, y] ∧ H l = some (.lst xs) ∧ xs.length < sizeLine ∧ 0 ≤ i ∧ i < 2 ^ 63 ∧
    Q .non (upd H l (.lst (xs.take i.toNat ++ [y] ++ xs.drop i.toNat)))
theorem x_insert {X : Cx} : MtR X "list.insert" rInsert := mt_insert
theorem o_insert {C : Cm} : OpM C rInsert gInsert := fun i M H x vs a as Q W s ra rs p => by
  cases ra with
  | @ref q n hn =>
    match as, rs, p with
    | [], _, p => exact False.elim p
    | [b], _, p => cases b <;> exact False.elim p
    | b :: _ :: _ :: _, _, p => cases b <;> exact False.elim p
    | [b, c], rs, p =>
      obtain ⟨x1, y, rfl, r1, ry⟩ := rs.two
      cases r1 with
      | int k =>
        obtain ⟨c, hc, o⟩ := s.get hn
        simp only [gInsert, hc] at p
        cases o with
        | lst h1 h2 =>
          obtain ⟨⟨k0, k1, k2⟩, p⟩ := post.need p
          obtain ⟨e, s'⟩ := setL_at s hn (VRs.app (h2.drop k.toNat) (VRs.app (.cons ry .nil) (h2.take k.toNat))) h1
          exact ⟨q, _, k, y, rfl, rfl, h1, by rw [h2.len, sizeLine_eq]; exact k2, k0, by omega, p _ i _ e s' .non⟩
        | dK _ _ => exact False.elim p
        | dT _ _ => exact False.elim p
      | _ => exact False.elim p
  | _ => exact False.elim p
def gReverse : AV → List AV → AH → Res AV
  | .ref n, [], M => match M.objs[n]? with
    | some (.lst xs) => .ok .non (setL M n xs.reverse)
    | _ => .stuck
  | _, _, _ => .stuck
theorem o_reverse {C : Cm} : OpM C rReverse gReverse := fun i M H x vs a as Q W s ra rs p => by
  cases ra with
  | @ref q n hn =>
    match as, rs, p with
    | _ :: _, _, p => exact False.elim p
    | [], rs, p =>
      cases rs
      obtain ⟨c, hc, o⟩ := s.get hn
      simp only [gReverse, hc] at p
      cases o with
      | lst h1 h2 =>
        obtain ⟨e, s'⟩ := setL_at s hn h2.reverse h1
        exact ⟨q, _, rfl, rfl, h1, p _ i _ e s' .non⟩
      | dK _ _ => exact False.elim p
      | dT _ _ => exact False.elim p
  | _ => exact False.elim p

/-! ### join -/
def strsOf : List AV → Option (List Str)
  | [] => some []
  | .str x :: r => (strsOf r).map (x :: ·)
  | _ :: _ => none
theorem strsOf_at {K : PySem.W.Frag} {i : Ix} {H : Hp} : ∀ {us : List V} {as : List AV} {ys : List Str}, VRs K i H us as → strsOf as = some ys → us = ys.map V.str
  | _, _, _, .nil, h => by cases h; rfl
  | _, _, ys, .cons (a := a) (as := as) r t, h => by
    cases r with
    | str z =>
      simp only [strsOf] at h
      cases e : strsOf as with
      | none => rw [e] at h; cases h
      | some zs =>
        rw [e] at h
        cases h
        rw [List.map_cons, strsOf_at t e]
    | _ => cases h
def rJoin (K : PySem.W.Frag) : V → List V → Hp → VK → Prop := fun x xs H Q => ∃ a p, ∃ ys : List Str, x = .str a ∧ xs = [.ref p] ∧ (SqL K H p (ys.map V.str) ∨ SqT K H p (ys.map V.str)) ∧
    (ys.map (·.length)).sum + ys.length * a.length ≤ 16777216 ∧ Q (.str (Txt.join a ys)) H
theorem x_join {X : Cx} : MtR X "str.join" (rJoin X.K) := mt_join
def gJoin : AV → List AV → AH → Res AV
  | .str a, [b], M => match itemsOf M b with
    | some xs => match strsOf xs with
      | some ys => if (ys.map (·.length)).sum + ys.length * a.length ≤ 16777216 then .ok (.str (Txt.join a ys)) M else .stuck
      | none => .stuck
    | none => .stuck
  | _, _, _ => .stuck
theorem o_join {C : Cm} : OpM C (rJoin C.K) gJoin := fun i M H x vs a as Q W s ra rs p => by
  cases ra with
  | str z =>
    match as, rs, p with
    | [], _, p => exact False.elim p
    | _ :: _ :: _, _, p => exact False.elim p
    | [b], rs, p =>
      obtain ⟨y, rfl, ry⟩ := rs.one
      simp only [gJoin] at p
      cases e : itemsOf M b with
      | none => rw [e] at p; exact False.elim p
      | some xs =>
        simp only [e] at p
        cases e2 : strsOf xs with
        | none => rw [e2] at p; exact False.elim p
        | some ys =>
          simp only [e2] at p
          obtain ⟨hz, p⟩ := post.need p
          obtain ⟨q, us, rfl, h1, h2⟩ := itemsOf_at s ry e
          have e3 := strsOf_at h2 e2
          subst e3
          exact ⟨z, q, ys, rfl, rfl, h1, hz, p.now s (.str _)⟩
  | _ => exact False.elim p

/-! ### list(x), tuple(x) -/
def gListV : List AV → AH → Res AV
  | [a], M => match itemsOf M a with
    | some xs => .ok (.lst xs) M
    | none => .stuck
  | _, _ => .stuck
def gListR : List AV → AH → Res AV
  | [a], M => match itemsOf M a with
    | some xs => .ok (.ref M.objs.length) ⟨M.objs ++ [.lst xs], M.fz⟩
    | none => .stuck
  | _, _ => .stuck
def rListOf (K : PySem.W.Frag) : List V → Hp → VK → Prop := fun xs H Q => ∃ p ys, xs = [.ref p] ∧ (SqL K H p ys ∨ SqT K H p ys) ∧ ∀ l, H l = none → Q (.ref l) (upd H l (.lst ys))
theorem x_list {X : Cx} : CallR X (.type "list") (rListOf X.K) := call_list_of
theorem o_listV {C : Cm} : OpC C (rListOf C.K) gListV := fun i M H xs as Q W s r p => by
  match as, r, p with
  | [], _, p => exact False.elim p
  | _ :: _ :: _, _, p => exact False.elim p
  | [a], r, p =>
    obtain ⟨x, rfl, rx⟩ := r.one
    simp only [gListV] at p
    cases e : itemsOf M a with
    | none => rw [e] at p; exact False.elim p
    | some ys =>
      rw [e] at p
      obtain ⟨q, us, rfl, h1, h2⟩ := itemsOf_at s rx e
      exact ⟨q, us, rfl, h1, new_lst s h2 p⟩
theorem o_listR {C : Cm} : OpC C (rListOf C.K) gListR := fun i M H xs as Q W s r p => by
  match as, r, p with
  | [], _, p => exact False.elim p
  | _ :: _ :: _, _, p => exact False.elim p
  | [a], r, p =>
    obtain ⟨x, rfl, rx⟩ := r.one
    simp only [gListR] at p
    cases e : itemsOf M a with
    | none => rw [e] at p; exact False.elim p
    | some ys =>
      rw [e] at p
      obtain ⟨q, us, rfl, h1, h2⟩ := itemsOf_at s rx e
      exact ⟨q, us, rfl, h1, new_lstR s h2 p⟩
def gTuple1 (M : AH) : AV → Res AV
  | .tuc xs => .ok (.tuc xs) M
  | a => match itemsOf M a with
    | some xs => .ok (.tup xs) M
    | none => .stuck
def gTuple : List AV → AH → Res AV
  | [a], M => gTuple1 M a
  | _, _ => .stuck
def rTupleOf (K : PySem.W.Frag) : List V → Hp → VK → Prop := fun xs H Q => ∃ p ys, xs = [.ref p] ∧ ((SqL K H p ys ∧ ∀ l, H l = none → Q (.ref l) (upd H l (.tup ys))) ∨ (SqT K H p ys ∧ Q (.ref p) H))
theorem x_tuple {X : Cx} : CallR X (.type "tuple") (rTupleOf X.K) := call_tuple_of
theorem o_tuple {C : Cm} : OpC C (rTupleOf C.K) gTuple := fun i M H xs as Q W s r p => by
  match as, r, p with
  | [], _, p => exact False.elim p
  | _ :: _ :: _, _, p => exact False.elim p
  | [a], r, p =>
    obtain ⟨x, rfl, rx⟩ := r.one
    by_cases hu : ∃ ys, a = .tuc ys
    · obtain ⟨ys, rfl⟩ := hu
      cases rx with
      | @tuc q us _ h1 h2 =>
        have p : post C (RV C) i H (.ok (.tuc ys) M) Q W := p
        exact ⟨q, us, rfl, .inr ⟨h1.sq, p.now s (.tuc h1 h2)⟩⟩
    have p : post C (RV C) i H (match itemsOf M a with | some xs => .ok (.tup xs) M | none => .stuck) Q W := by
      simp only [gTuple] at p
      cases a <;> first | exact p | exact absurd ⟨_, rfl⟩ hu
    by_cases ht : ∃ ys, a = .tup ys
    · obtain ⟨ys, rfl⟩ := ht
      cases rx with
      | @tup q us _ h1 hn h2 =>
        have p : post C (RV C) i H (.ok (.tup ys) M) Q W := p
        exact ⟨q, us, rfl, .inr ⟨sq_of h1, p.now s (.tup h1 hn h2)⟩⟩
    · have hl : itemsOf M a = lstR M a := by cases a <;> first | rfl | exact absurd ⟨_, rfl⟩ ht | exact absurd ⟨_, rfl⟩ hu
      rw [hl] at p
      cases e : lstR M a with
      | none => rw [e] at p; exact False.elim p
      | some ys =>
        rw [e] at p
        obtain ⟨q, us, rfl, h1, h2⟩ := lstR_at s rx e
        exact ⟨q, us, rfl, .inl ⟨h1, new_tup s h2 p⟩⟩

/-! ### ord, all, any, max, min, abs, int, str -/
def gOrd1 : List AV → AH → Res AV
  | [.str x], M => if x.length = 1 then .ok (.int (x.cps.getD 0 0 : Nat)) M else .stuck
  | _, _ => .stuck
def rOrd1 : List V → Hp → VK → Prop := fun xs H Q => ∃ x, xs = [V.str x] ∧ x.length = 1 ∧ Q (.int (x.cps.getD 0 0 : Nat)) H
theorem x_ord {X : Cx} : CallR X (.builtin "ord") rOrd1 := call_ord
theorem o_ord1 {C : Cm} : OpC C rOrd1 gOrd1 := fun i M H xs as Q W s r p => by
  match as, r, p with
  | [], _, p => exact False.elim p
  | a :: _ :: _, _, p => cases a <;> exact False.elim p
  | [a], r, p =>
    obtain ⟨x, rfl, rx⟩ := r.one
    cases rx with
    | str z =>
      obtain ⟨hz, p⟩ := post.need p
      exact ⟨z, rfl, hz, p.now s (.int _)⟩
    | _ => exact False.elim p
def boolsOf : List AV → Option (List Bool)
  | [] => some []
  | .bl x :: r => (boolsOf r).map (x :: ·)
  | _ :: _ => none
theorem boolsOf_at {K : PySem.W.Frag} {i : Ix} {H : Hp} : ∀ {us : List V} {as : List AV} {ys : List Bool}, VRs K i H us as → boolsOf as = some ys → us = ys.map V.bl
  | _, _, _, .nil, h => by cases h; rfl
  | _, _, ys, .cons (a := a) (as := as) r t, h => by
    cases r with
    | bl z =>
      simp only [boolsOf] at h
      cases e : boolsOf as with
      | none => rw [e] at h; cases h
      | some zs =>
        rw [e] at h
        cases h
        rw [List.map_cons, boolsOf_at t e]
    | _ => cases h
def gAll : List AV → AH → Res AV
  | [a], M => match (lstR M a).bind boolsOf with
    | some bs => .ok (.bl (bs.all id)) M
    | none => .stuck
  | _, _ => .stuck
def gAny : List AV → AH → Res AV
  | [a], M => match (lstR M a).bind boolsOf with
    | some bs => .ok (.bl (bs.any id)) M
    | none => .stuck
  | _, _ => .stuck
theorem o_all {C : Cm} : OpC C (rAll C.K) gAll := fun i M H xs as Q W s r p => by
  match as, r, p with
  | [], _, p => exact False.elim p
  | a :: _ :: _, _, p => exact False.elim p
  | [a], r, p =>
    obtain ⟨x, rfl, rx⟩ := r.one
    simp only [gAll] at p
    cases e : lstR M a with
    | none => rw [e] at p; exact False.elim p
    | some ys =>
      rw [e] at p
      have p : post C (RV C) i H (match boolsOf ys with | some bs => .ok (.bl (bs.all id)) M | none => .stuck) Q W := p
      cases e2 : boolsOf ys with
      | none => rw [e2] at p; exact False.elim p
      | some bs =>
        rw [e2] at p
        obtain ⟨q, us, rfl, h1, h2⟩ := lstR_at s rx e
        have e3 := boolsOf_at h2 e2
        subst e3
        exact ⟨q, bs, rfl, h1, p.now s (.bl _)⟩
theorem o_any {C : Cm} : OpC C (rAny C.K) gAny := fun i M H xs as Q W s r p => by
  match as, r, p with
  | [], _, p => exact False.elim p
  | a :: _ :: _, _, p => exact False.elim p
  | [a], r, p =>
    obtain ⟨x, rfl, rx⟩ := r.one
    simp only [gAny] at p
    cases e : lstR M a with
    | none => rw [e] at p; exact False.elim p
    | some ys =>
      rw [e] at p
      have p : post C (RV C) i H (match boolsOf ys with | some bs => .ok (.bl (bs.any id)) M | none => .stuck) Q W := p
      cases e2 : boolsOf ys with
      | none => rw [e2] at p; exact False.elim p
      | some bs =>
        rw [e2] at p
        obtain ⟨q, us, rfl, h1, h2⟩ := lstR_at s rx e
        have e3 := boolsOf_at h2 e2
        subst e3
        exact ⟨q, bs, rfl, h1, p.now s (.bl _)⟩
end Mx

/-! Mx13: glue for the generator's texts. -/
namespace Mx
open PySem L2 PySem.Spec
section
variable {X : Cx} {W : WX} {k : Nat}
theorem At.blk (T : At X W k) {s : Shared} {H : Hp} {scope : Scope} {cenv : PySem.Env} {fp : List Addr} : At (X.blk s H scope cenv fp) W0 k := ⟨T.room, T.gd, fun u s' ⟨_, _, _, _, _, _, _, _, _, _, _, _, _, _, _, _, w⟩ => w, PassesOwn.never⟩
theorem At.w0 (T : At X W k) : At X W0 k := ⟨T.room, T.gd, fun u s' ⟨_, _, _, _, _, _, _, _, _, _, _, _, _, _, _, _, w⟩ => w.elim, T.own⟩
theorem At.mono (T : At X W k) {j : Nat} (h : j ≤ k) : At X W j := ⟨T.room.mono h, T.gd, T.tk, T.own⟩
theorem At.u1 (T : At X W k) : X.A.units + 1 < cLine := hu_of T.room
theorem At.u64 (T : At X W k) : X.A.units + 64 < cLine := T.room.units
end
/-- a def of the top: its object, how it binds, its name -/
structure Dn (K : PySem.W.Frag) (mg : Str → Option Value) (x : Str) (st : Stmt) (ps : List Str) (f : Addr) (fd : FuncData) : Prop where
  F : Fun K x x st f fd
  b : Binds K fd ps []
  g : mg x = some (.ref f)
section
variable {X : Cx} {W : WX} {pos p : Pos} {e : Expr} {es : List Expr} {n : AM} {m : List AV → AH → Res AV} {x : Str} {st : Stmt} {f : Addr} {fd : FuncData} {ps : List Str} {j k : Nat}
theorem c_call (D : Dn X.K X.mg x st ps f fd) (F : GnOk X.prog X.w X.K X.mg X.base j f fd ps (spM (cm X) m)) (T : At X W k) (hj : j ≤ k) (hg : Gl X x) (ha : PA X (e :: es) (tA (cm X) W n)) (hdb : (x == ("__debug__" : Str)) = false := by decide)
    (he : starEach (e :: es) X.env = (false, eval e X.env) :: starEach es X.env := by rfl) (hpl : (backTo pos (starEach es X.env)).any (·.1) = false := by rfl) :
    PE X (.Call (.Name x p) (e :: es) [] pos) (tE (cm X) W (mCall m n)) := e_call (F.mono hj) T hg D.g D.F.kp D.b ha hdb he hpl
theorem c_call0 (D : Dn X.K X.mg x st ps f fd) (F : GnOk X.prog X.w X.K X.mg X.base j f fd ps (spM (cm X) m)) (T : At X W k) (hj : j ≤ k) (hg : Gl X x) (hdb : (x == ("__debug__" : Str)) = false := by decide) :
    PE X (.Call (.Name x p) [] [] pos) (tE (cm X) W (fun _ M => m [] M)) := e_call0 (F.mono hj) T hg D.g D.F.kp D.b hdb
theorem e_glob {a : AV} {v : V} (h : ∃ u, X.mg x = some u ∧ RelV v u) (hg : Gl X x) (r : ∀ i H, VR X.K i H v a) (hd : (x == ("__debug__" : Str)) = false := by decide) : PE X (.Name x pos) (tE (cm X) W (mC a)) := by
  obtain ⟨u, h1, h2⟩ := h
  exact e_const (pe_glob hg h1 h2 hd) r
theorem e_gstr {z : Str} (h : ∃ u, X.mg x = some u ∧ RelV (.str z) u) (hg : Gl X x) (hd : (x == ("__debug__" : Str)) = false := by decide) : PE X (.Name x pos) (tE (cm X) W (mC (.str z))) := e_glob h hg (fun _ _ => .str z) hd
theorem e_gint {z : Int} (h : ∃ u, X.mg x = some u ∧ RelV (.int z) u) (hg : Gl X x) (hd : (x == ("__debug__" : Str)) = false := by decide) : PE X (.Name x pos) (tE (cm X) W (mC (.int z))) := e_glob h hg (fun _ _ => .int z) hd
theorem noop : True := trivial
end
def mRng1 (n : AM) : IM := fun G M => (n G M).bind fun as M1 => match as with
  | [x] => gRng [x] M1
  | _ => .stuck
def mRng2 (n : AM) : IM := fun G M => (n G M).bind fun as M1 => match as with
  | [x, y] => gRng [x, y] M1
  | _ => .stuck
section
variable {X : Cx} {W : WX} {tg a b : Expr} {n : AM} {p pos : Pos}
theorem r_rng1 (hg : Gl X "range") (hm : X.mg "range" = none) (ha : PA X [a] (tA (cm X) W n)) (hs : starEach [a] X.env = [(false, eval a X.env)] := by rfl) : PI X tg (.Call (.Name "range" p) [a] [] pos) (tI (cm X) W (mRng1 n)) := i_rng1 hg hm ha hs
theorem r_rng2 (hg : Gl X "range") (hm : X.mg "range" = none) (ha : PA X [a, b] (tA (cm X) W n)) (hs : starEach [a, b] X.env = [(false, eval a X.env), (false, eval b X.env)] := by rfl) (hs2 : starEach [b] X.env = [(false, eval b X.env)] := by rfl) : PI X tg (.Call (.Name "range" p) [a, b] [] pos) (tI (cm X) W (mRng2 n)) := i_rng2 hg hm ha hs hs2
end
end Mx

/-! Mx14: order over data, sorted, max and min, int of truths, lists of keys. -/
namespace Mx
open PySem hiding Env
open L2 PySem.Spec PyProof.Rows PySem.W

/-! ### < and its like over data -/
def rOrdD (f : PyData → PyData → Bool) (K : PySem.W.Frag) : R2 := fun x y H Q => ∃ d e, Dp K H x d ∧ Dp K H y e ∧ alike d e = true ∧ d ≠ .none ∧ pdl 60 d = true ∧ Q (.bl (f d e)) H
section
variable {X : Cx}
theorem op_ltD (hu : X.A.units + 64 < cLine) : OpR X (compareOp .Lt) (rOrdD (fun d e => dataLt d e) X.K) := fun pins s σ H x y v u Q I rx ry h => by
  obtain ⟨d, e, hd, he, ha, hn, pd, q⟩ := h
  obtain ⟨as, ra⟩ := Dp.reads I _ _ _ hd rx
  obtain ⟨bs, rb⟩ := Dp.reads I _ _ _ he ry
  obtain ⟨e1, _⟩ := pdl_depth _ _ pd
  exact lt_data ra rb ha hn (by omega) ⟨.bl _, H, I, rfl, q⟩
theorem op_gtD (hu : X.A.units + 64 < cLine) : OpR X (compareOp .Gt) (rOrdD (fun d e => dataLt e d) X.K) := fun pins s σ H x y v u Q I rx ry h => by
  obtain ⟨d, e, hd, he, ha, hn, pd, q⟩ := h
  obtain ⟨as, ra⟩ := Dp.reads I _ _ _ hd rx
  obtain ⟨bs, rb⟩ := Dp.reads I _ _ _ he ry
  obtain ⟨e1, _⟩ := pdl_depth _ _ pd
  exact gt_data ra rb ha hn (by omega) ⟨.bl _, H, I, rfl, q⟩
theorem op_leD (hu : X.A.units + 64 < cLine) : OpR X (compareOp .LtE) (rOrdD (fun d e => !dataLt e d) X.K) := fun pins s σ H x y v u Q I rx ry h => by
  obtain ⟨d, e, hd, he, ha, hn, pd, q⟩ := h
  obtain ⟨as, ra⟩ := Dp.reads I _ _ _ hd rx
  obtain ⟨bs, rb⟩ := Dp.reads I _ _ _ he ry
  obtain ⟨e1, _⟩ := pdl_depth _ _ pd
  exact le_data ra rb ha hn (by omega) ⟨.bl _, H, I, rfl, q⟩
theorem op_geD (hu : X.A.units + 64 < cLine) : OpR X (compareOp .GtE) (rOrdD (fun d e => !dataLt d e) X.K) := fun pins s σ H x y v u Q I rx ry h => by
  obtain ⟨d, e, hd, he, ha, hn, pd, q⟩ := h
  obtain ⟨as, ra⟩ := Dp.reads I _ _ _ hd rx
  obtain ⟨bs, rb⟩ := Dp.reads I _ _ _ he ry
  obtain ⟨e1, _⟩ := pdl_depth _ _ pd
  exact ge_data ra rb ha hn (by omega) ⟨.bl _, H, I, rfl, q⟩
end
def notN : AV → Bool
  | .non => false
  | .dK _ => false
  | .dT _ => false
  | .ref _ => false
  | _ => true
theorem notN_ne {a : AV} (h : notN a = true) : toD a ≠ .none := by
  cases a <;> first | (cases h; done) | (intro z; rw [toD] at z; cases z)
def gOrdD (f : PyData → PyData → Bool) : AV → AV → AH → Res AV := fun a b M => if (plain 60 a && plain 60 b && alike (toD a) (toD b) && notN a) = true then .ok (.bl (f (toD a) (toD b))) M else .stuck
theorem o_ordD {C : Cm} {f : PyData → PyData → Bool} : Op2 C (rOrdD f C.K) (gOrdD f) := fun i M H x y a b Q W s ra rb p => by
  unfold gOrdD at p
  by_cases h : (plain 60 a && plain 60 b && alike (toD a) (toD b) && notN a) = true
  · rw [if_pos h] at p
    simp only [Bool.and_eq_true] at h
    obtain ⟨⟨⟨h1, h2⟩, h3⟩, h4⟩ := h
    exact ⟨_, _, dp_of a 60 x h1 ra, dp_of b 60 y h2 rb, h3, notN_ne h4, pdl_of 60 a h1, p.now s (.bl _)⟩
  · rw [if_neg h] at p
    exact False.elim p
abbrev gLtD := gOrdD (fun d e => dataLt d e)
abbrev gGtD := gOrdD (fun d e => dataLt e d)
abbrev gLeD := gOrdD (fun d e => !dataLt e d)
abbrev gGeD := gOrdD (fun d e => !dataLt d e)

/-! ### sorted -/
theorem each_of_vals {β : Type} {f : β → V} : ∀ {bs : List β} {us : List Value}, Vals (bs.map f) us → EachIs (fun u b => RelV (f b) u) us bs
  | [], _, h => by cases h; exact .nil
  | b :: r, _, h => by
    cases h with
    | cons h1 h2 => exact .cons h1 (each_of_vals h2)
theorem vals_of_each {β : Type} {f : β → V} : ∀ {bs : List β} {us : List Value}, EachIs (fun u b => RelV (f b) u) us bs → Vals (bs.map f) us
  | [], _, h => by cases h; exact .nil
  | b :: r, _, h => by
    cases h with
    | cons h1 h2 => exact .cons h1 (vals_of_each h2)
abbrev encA (b : V × AV) : PyData := toD b.2
noncomputable def sortVA (bs : List (V × AV)) : List (V × AV) := bs.mergeSort (dataLe false encA)
/-- rows that can be sorted -/
structure SrtOk (K : PySem.W.Frag) (H : Hp) (bs : List (V × AV)) : Prop where
  dp : ∀ b ∈ bs, Dp K H b.1 (toD b.2) ∧ pdl 60 (toD b.2) = true
  al : AllAlike (bs.map encA)
  so : Sortable (bs.map encA)
def rSortA (K : PySem.W.Frag) : List V → Hp → VK → Prop := fun xs H Q => ∃ (a : Addr) (bs : List (V × AV)), xs = [.ref a] ∧ SqL K H a (bs.map (·.1)) ∧ SrtOk K H bs ∧ ∀ p, H p = none → Q (.ref p) (upd H p (.lst ((sortVA bs).map (·.1))))
section
variable {X : Cx}
theorem SrtOk.reads {pins : List (Addr × Obj)} {s : Shared} {σ : L2.St} {H : Hp} {bs : List (V × AV)} {us : List Value} (h : SrtOk X.K H bs) (I : Inv X pins σ H s) (e : EachIs (fun u (b : V × AV) => RelV b.1 u) us bs) : EachIs (fun v b => ∃ as, Reads s.heap v (encA b) as) us bs :=
  (each_mem e).mono fun u b ⟨r, hb⟩ => Dp.reads I _ _ _ (h.dp b hb).1 r
theorem SrtOk.depth {H : Hp} {bs : List (V × AV)} (h : SrtOk X.K H bs) {n : Nat} (hn : n ≤ 4) (hu : X.A.units + 64 < cLine) : ∀ b ∈ bs, X.A.units + n + (encA b).depth < cLine := fun b hb => by
  obtain ⟨e1, _⟩ := pdl_depth _ _ (h.dp b hb).2
  show X.A.units + n + (toD b.2).depth < cLine
  omega
theorem cr_sortA (hu : X.A.units + 64 < cLine) : CallR X (.builtin "sorted") (rSortA X.K) := by
  intro pins s σ H vs us Q I r h
  obtain ⟨a, bs, rfl, hs, ok, q⟩ := h
  obtain ⟨its, rv, hl, hz⟩ := I.list hs
  rw [Vals.ref1 r]
  have e := each_of_vals (f := fun b : V × AV => b.1) rv
  have hlb : bs.length ≤ sizeLine := by
    rwa [List.length_map] at hz
  refine sorted_data hl.isList e (ok.reads I e) ok.al ok.so hlb (fun b hb => ok.depth (by decide) hu b hb) fun out hlen hout => ?_
  obtain ⟨ep, he'⟩ := PyProof.Rows.sortedAll_at s.heap its (List.toArray out)
  have hv := vals_of_each (f := fun b : V × AV => b.1) hout
  refine ⟨.ref _, upd H (s.heap.objs.size + 1) (.lst ((sortVA bs).map (·.1))), I.laid (t' := s.toks) (fun _ _ => PyProof.Rows.sortedAll_old) (Nat.le_succ _) ⟨?_, out, ep, hv, he'⟩, rfl, q _ (I.hok.fresh (Nat.le_succ _))⟩
  have := hv.length
  show ((bs.mergeSort (dataLe false encA)).map fun b => b.1).length ≤ sizeLine
  omega
end
/-- a row of things that can be sorted -/
def likeA (as : List AV) : Bool := as.all fun a => as.all fun b => alike (toD a) (toD b)
def tup1 : AV → Bool
  | .tup (_ :: _) => true
  | _ => false
def notT : AV → Bool
  | .tup _ => false
  | .tuc _ => false
  | a => notN a
def sortOk (as : List AV) : Bool := as.all (plain 60) && likeA as && (as.all tup1 || as.all notT)
noncomputable def sortA (as : List AV) : List AV := as.mergeSort (dataLe false toD)
theorem sortVA_snd (bs : List (V × AV)) : (sortVA bs).map (·.2) = sortA (bs.map (·.2)) := by
  unfold sortVA sortA
  exact List.map_mergeSort fun a _ b _ => rfl
theorem vrs_zip {K : PySem.W.Frag} {i : Ix} {H : Hp} : ∀ {vs : List V} {as : List AV}, VRs K i H vs as → ∃ bs : List (V × AV), bs.map (·.1) = vs ∧ bs.map (·.2) = as ∧ ∀ b ∈ bs, VR K i H b.1 b.2
  | _, _, .nil => ⟨[], rfl, rfl, by simp⟩
  | _, _, .cons (v := v) (a := a) r t => by
    obtain ⟨bs, e1, e2, h⟩ := vrs_zip t
    refine ⟨(v, a) :: bs, by simp [e1], by simp [e2], fun b hb => ?_⟩
    rcases List.mem_cons.mp hb with z | z
    · rw [z]
      exact r
    · exact h b z
theorem vrs_unzip {K : PySem.W.Frag} {i : Ix} {H : Hp} : ∀ {bs : List (V × AV)}, (∀ b ∈ bs, VR K i H b.1 b.2) → VRs K i H (bs.map (·.1)) (bs.map (·.2))
  | [], _ => .nil
  | b :: r, h => .cons (h b (by simp)) (vrs_unzip fun c hc => h c (by simp [hc]))
theorem srt_of {K : PySem.W.Frag} {i : Ix} {H : Hp} {bs : List (V × AV)} (hr : ∀ b ∈ bs, VR K i H b.1 b.2) (h : sortOk (bs.map (·.2)) = true) : SrtOk K H bs := by
  unfold sortOk likeA at h
  simp only [Bool.and_eq_true, List.all_map, List.all_eq_true, Bool.or_eq_true, Function.comp] at h
  obtain ⟨⟨h1, h2⟩, h3⟩ := h
  refine ⟨fun b hb => ⟨dp_of b.2 60 b.1 (h1 b hb) (hr b hb), pdl_of 60 b.2 (h1 b hb)⟩, fun d hd e he => ?_, ?_⟩
  · obtain ⟨b, hb, rfl⟩ := List.mem_map.mp hd
    obtain ⟨c, hc, rfl⟩ := List.mem_map.mp he
    exact h2 b hb c hc
  · rcases h3 with h3 | h3
    · refine .inl fun d hd => ?_
      obtain ⟨b, hb, rfl⟩ := List.mem_map.mp hd
      have := h3 b hb
      show ∃ x r, toD b.2 = _
      cases e : b.2 with
      | tup xs =>
        rw [e] at this
        cases xs with
        | nil => cases this
        | cons x r => exact ⟨toD x, toDs r, rfl⟩
      | _ => rw [e] at this; cases this
    · refine .inr fun d hd => ?_
      obtain ⟨b, hb, rfl⟩ := List.mem_map.mp hd
      have := h3 b hb
      show toD b.2 ≠ .none ∧ ∀ xs, toD b.2 ≠ .tuple xs
      cases e : b.2 <;> rw [e] at this <;> first | (cases this; done) | exact ⟨(by intro z; rw [toD] at z; cases z), (by intro xs z; rw [toD] at z; cases z)⟩
/-! ### sorted of a dict whose keys are tuples -/
theorem keys_rows {H : Hp} {kvs : List (List Key × V)} {bs : List Addr} (h : IsKeys H kvs bs) : True := trivial
def keyAV : Key → AV
  | .inl i => .int i
  | .inr x => .str x
def keysT (kvs : List (List Key × AV)) : List AV := kvs.map fun p => .tup (p.1.map keyAV)
def keysK (kvs : List (Key × AV)) : List AV := kvs.map fun p => keyAV p.1
noncomputable def gSorted : List AV → AH → Res AV
  | [a], M => match lstR M a with
    | some xs => if sortOk xs = true then .ok (.lst (sortA xs)) M else .stuck
    | none => match dctT M a with
      | some kvs => if sortOk (keysT kvs) = true then .ok (.lst (sortA (keysT kvs))) M else .stuck
      | none => .stuck
  | _, _ => .stuck
theorem dpk {K : PySem.W.Frag} {H : Hp} : ∀ k : Key, Dp K H (kV k) (toD (keyAV k))
  | .inl i => .int i
  | .inr x => .str x
theorem dpks {K : PySem.W.Frag} {H : Hp} : ∀ ks : List Key, DpAll K H (ks.map kV) (toDs (ks.map keyAV))
  | [] => .nil
  | k :: r => .cons (dpk k) (dpks r)
theorem pdlk : ∀ ks : List Key, pdl 60 (toD (.tup (ks.map keyAV))) = true := fun ks => by
  refine pdl_of 60 _ ?_
  show (ks.map keyAV).all (plain 59) = true
  simp only [List.all_map, List.all_eq_true]
  intro k _
  cases k <;> rfl
def rSortT (K : PySem.W.Frag) : List V → Hp → VK → Prop := fun xs H Q => ∃ (d : Addr) (kvs : List (List Key × V)), xs = [.ref d] ∧ Rd H d (.dT kvs) ∧
  ∀ bs : List (V × AV), bs.map (·.2) = kvs.map (fun p => AV.tup (p.1.map keyAV)) → (∀ b ∈ bs, ∃ (c : Addr) (ks : List Key), b = (V.ref c, AV.tup (ks.map keyAV)) ∧ H c = some (.tup (ks.map kV))) → SrtOk K H bs ∧ ∀ p, H p = none → Q (.ref p) (upd H p (.lst ((sortVA bs).map (·.1))))
theorem iskeys_zip {H : Hp} {kvs : List (List Key × V)} {bs : List Addr} (h : IsKeys H kvs bs) : ∃ zs : List (V × AV), zs.map (·.2) = kvs.map (fun p => AV.tup (p.1.map keyAV)) ∧ zs.map (·.1) = bs.map V.ref ∧ ∀ b ∈ zs, ∃ (c : Addr) (ks : List Key), b = (V.ref c, AV.tup (ks.map keyAV)) ∧ H c = some (.tup (ks.map kV)) := by
  unfold IsKeys at h
  induction h with
  | nil => exact ⟨[], rfl, rfl, by simp⟩
  | @cons p b ps bs h1 h2 ih =>
    obtain ⟨zs, e1, e2, e3⟩ := ih
    refine ⟨(.ref b, .tup (p.1.map keyAV)) :: zs, by simp [e1], by simp [e2], fun z hz => ?_⟩
    rcases List.mem_cons.mp hz with rfl | hz
    · exact ⟨b, p.1, rfl, h1⟩
    · exact e3 z hz
theorem cr_sortT' {X : Cx} (hc : X.calm = true) (hu : X.A.units + 64 < cLine) : CallR X (.builtin "sorted") (rSortT X.K) := by
  intro pins s σ H xs us Q I r h
  obtain ⟨d, kvs, rfl, hd, q⟩ := h
  obtain ⟨u, rfl, rx⟩ := r.one
  cases rx
  obtain ⟨z, hs, ks, pr, o, es, ep, ho, hx, hdt, he, hn⟩ := (show ObjOk X.prog X.w H s.heap d (.dT kvs) from hd.ok I.hok)
  have l1 : es.size = ks.length := size_of_entries he
  have l2 : kvs.length = ks.length := Paired.length pr
  obtain ⟨bs, b1, b2, b3⟩ := iskeys_zip (isKeys_of pr)
  obtain ⟨ok, q⟩ := q bs b1 b3
  have hlen : bs.length = ks.length := by
    have := congrArg List.length b2
    simpa using this
  refine Calls.call_function_entry PyProof.Rows.kind_sorted PyProof.Rows.plain_sorted PyProof.Rows.entry_sorted (PyProof.Rows.args_sorted1 _) ?_
  unfold Builtin.«sorted»
  refine wpAny_bind (m := checkCount "sorted" 1 1 _) (wpAny_pure ?_)
  refine wpAny_bind (PySem.W.kdu_collect (A := X.A.in1) (kdl_raw hs hx hdt) (I.ok.hd hc) ho (by omega) fun h' tk acc hk hacc => ?_)
  have ea : acc.toList = ks.map fun x => Value.ref x.2.1 := by
    have hl : acc.toList.length = ks.length := by rw [Array.length_toList, hacc.1]; exact l1
    apply List.ext_getElem?
    intro j
    rw [List.getElem?_map]
    cases hj : acc.toList[j]? with
    | none =>
      have h1 := List.getElem?_eq_none_iff.mp hj
      rw [List.getElem?_eq_none (by omega)]
      all_goals rfl
    | some v =>
      obtain ⟨en, hen, hv⟩ := hacc.2 j v (by rw [← Array.getElem?_toList]; exact hj)
      have qe := entry_at he j
      rw [hen] at qe
      cases hb : ks[j]? with
      | none =>
        rw [hb] at qe
        exact nomatch (show some en = none from qe)
      | some b =>
        rw [hb] at qe
        have e2 : en = entryOfKey (tupleKind (mixKind X.prog X.w)) b := Option.some.inj qe
        rw [hv, e2]
        all_goals rfl
  have eb : acc.toList = (ks.map fun x => x.2.1).map Value.ref := by rw [ea, List.map_map]; all_goals rfl
  have rv : Vals (bs.map fun b : V × AV => b.1) acc.toList := by
    rw [eb, show (bs.map fun b : V × AV => b.1) = (ks.map fun x => x.2.1).map V.ref from b2]
    exact vals_refs _
  have hal : acc.toList.length = bs.length := by rw [← rv.length, List.length_map]
  have I1 : Inv X pins σ H { s with heap := h', toks := tk } := I.kept hk
  refine wpAny_bind (wpAny_newList ?_ (by omega))
  have hoL : (h'.push (seqObj "list" acc.toList.toArray 0)).get? h'.objs.size = some (seqObj "list" acc.toList.toArray 0) := Heap.get?_push_size _ rfl
  show wpAny _ _ _ _ _ { s with heap := h'.push (seqObj "list" acc.toList.toArray 0), toks := tk }
  have e := each_of_vals (f := fun b : V × AV => b.1) rv
  have er : EachIs (fun v b => ∃ as, Reads (sortingHeap (h'.push (seqObj "list" acc.toList.toArray 0)) h'.objs.size acc.toList) v (encA b) as) acc.toList bs :=
    (ok.reads I1 e).mono fun _ _ ⟨as, r⟩ => ⟨as, PyProof.Rows.Reads.keeps (fun b o eb => sortingHeap_old (Nat.ne_of_lt (Heap.lt_size eb)) (Heap.get?_push_of_some _ eb)) r⟩
  refine wpAny_bind (wpAny_holding (wpAny_call_entry PyProof.Rows.slot_list_sort ⟨_, hoL, rfl⟩ PyProof.Rows.entry_list_sort
    (list_sort_vals (κ := dataKind (sortingHeap (h'.push (seqObj "list" acc.toList.toArray 0)) h'.objs.size acc.toList) (bs.map encA)) hoL
      (SortsAt.data (s := { s with heap := sortingHeap (h'.push (seqObj "list" acc.toList.toArray 0)) h'.objs.size acc.toList, toks := tk }) (each_map (R := fun v d => ∃ as, Reads (sortingHeap (h'.push (seqObj "list" acc.toList.toArray 0)) h'.objs.size acc.toList) v d as) encA er) ok.al ok.so (bound_map fun b hb => show X.A.units + 1 + 1 + (encA b).depth < cLine from ok.depth (n := 2) (by decide) hu b hb)) (by omega) ⟨_, rfl, ?_⟩)
    (PyProof.Rows.args_list_sort _)))
  have hout := sortVals_data false e er ok.al
  generalize sortVals (dataKind (sortingHeap (h'.push (seqObj "list" acc.toList.toArray 0)) h'.objs.size acc.toList) (bs.map encA)) false acc.toList acc.toList = out at hout ⊢
  obtain ⟨e', he'⟩ := PyProof.Rows.sortedHeap_at (vs := acc.toList) (out := out.toArray) hoL
  have hv := vals_of_each (f := fun b : V × AV => b.1) hout
  have hlo : ((sortVA bs).map (·.1)).length ≤ sizeLine := by
    unfold sortVA
    rw [List.length_map, List.length_mergeSort]
    omega
  refine wpAny_pure ⟨_, rfl, .ref h'.objs.size, upd H h'.objs.size (.lst ((sortVA bs).map (·.1))), I1.laid (t' := tk) (fun b u e => ?_) (Nat.le_refl _)
    (show ObjOk X.prog X.w _ _ _ (.lst ((sortVA bs).map (·.1))) from ⟨hlo, out, e', hv, he'⟩), rfl, q _ (I1.hok.fresh (Nat.le_refl _))⟩
  have hb : b < h'.objs.size := Heap.lt_size e
  rw [PyProof.Rows.sortedHeap_old (Nat.ne_of_lt hb) (by rw [size_push']; exact Nat.lt_succ_of_lt hb)]
  exact Heap.get?_push_of_some _ e
/-! ### sorted, over the abstract values -/
theorem Sim.notin_tup {K : PySem.W.Frag} {i : Ix} {M : AH} {H : Hp} (s : Sim K i M H) {c : Addr} {us : List V} (h : H c = some (.tup us)) : c ∉ i := fun z => by
  rcases z with z | z
  · obtain ⟨n, hn, e⟩ := List.mem_iff_getElem.mp z
    obtain ⟨d, _, o⟩ := s.get (n := n) (a := c) (by rw [List.getElem?_eq_getElem hn, e])
    cases o with
    | lst h1 _ => rw [h] at h1; cases h1
    | dK h1 _ =>
      rcases h1 with h1 | ⟨_, _, h1⟩ <;> rw [h] at h1 <;> cases h1
    | dT h1 _ =>
      rcases h1 with h1 | ⟨_, _, h1⟩ <;> rw [h] at h1 <;> cases h1
  · exact s.nt c z us h
theorem vrk_key {K : PySem.W.Frag} {i : Ix} {H : Hp} : ∀ k : Key, VR K i H (kV k) (keyAV k)
  | .inl i => .int i
  | .inr x => .str x
theorem vrk_keys {K : PySem.W.Frag} {i : Ix} {H : Hp} : ∀ ks : List Key, VRs K i H (ks.map kV) (ks.map keyAV)
  | [] => .nil
  | k :: r => .cons (vrk_key k) (vrk_keys r)
theorem vr_keyT {K : PySem.W.Frag} {i : Ix} {M : AH} {H : Hp} (s : Sim K i M H) {c : Addr} {ks : List Key} (h : H c = some (.tup (ks.map kV))) : VR K i H (.ref c) (.tup (ks.map keyAV)) := .tup h (s.notin_tup h) (vrk_keys ks)
theorem vrt_keys {K : PySem.W.Frag} {i : Ix} {H : Hp} : ∀ {us : List (List Key × V)} {as : List (List Key × AV)}, VRt K i H us as → us.map (fun p => AV.tup (p.1.map keyAV)) = keysT as
  | _, _, .nil => rfl
  | _, _, .cons r t => by
    have e := vrt_keys t
    simp only [keysT, List.map_cons] at e ⊢
    rw [e]
def rSortAll (K : PySem.W.Frag) : List V → Hp → VK → Prop := fun xs H Q => rSortA K xs H Q ∨ rSortT K xs H Q
theorem x_sorted {X : Cx} (hc : X.calm = true) (hu : X.A.units + 64 < cLine) : CallR X (.builtin "sorted") (rSortAll X.K) := fun pins s σ H xs us Q I r h => by
  rcases h with h | h
  · exact cr_sortA hu pins s σ H xs us Q I r h
  · exact cr_sortT' hc hu pins s σ H xs us Q I r h
theorem o_sorted {C : Cm} : OpC C (rSortAll C.K) gSorted := fun i M H xs as Q W s r p => by
  match as, r, p with
  | [], _, p => exact False.elim p
  | _ :: _ :: _, _, p => exact False.elim p
  | [a], r, p =>
    obtain ⟨v, rfl, rv⟩ := r.one
    simp only [gSorted] at p
    cases e : lstR M a with
    | some ys =>
      simp only [e] at p
      by_cases ok : sortOk ys = true
      · simp only [ok, if_true] at p
        obtain ⟨q, us, rfl, h1, h2⟩ := lstR_at s rv e
        obtain ⟨bs, rfl, rfl, hb⟩ := vrs_zip h2
        refine .inl ⟨q, bs, rfl, h1, srt_of hb ok, fun l hl => ?_⟩
        have hr : VRs C.K i H ((sortVA bs).map (·.1)) (sortA (bs.map (·.2))) := by
          rw [← sortVA_snd]
          exact vrs_unzip fun b hb' => hb b (by
            unfold sortVA at hb'
            exact List.mem_mergeSort.mp hb')
        exact p _ i _ (Ext.fresh hl) (s.fresh hl) (.lst upd_same (s.notin hl) (hr.mono (Ext.fresh hl)))
      · simp only [ok, if_false] at p
        exact False.elim p
    | none =>
      simp only [e] at p
      cases e2 : dctT M a with
      | none => simp only [e2] at p; exact False.elim p
      | some kvs =>
        simp only [e2] at p
        by_cases ok : sortOk (keysT kvs) = true
        · simp only [ok, if_true] at p
          obtain ⟨q, n, us, rfl, rfl, h1, h2, h3, h4, h5⟩ := dctT_at s rv e2
          refine .inr ⟨q, us, rfl, h3, fun bs hb1 hb2 => ?_⟩
          rw [vrt_keys h5] at hb1
          have hr : ∀ b ∈ bs, VR C.K i H b.1 b.2 := fun b hb => by
            obtain ⟨c, ks, rfl, hc⟩ := hb2 b hb
            exact vr_keyT s hc
          rw [← hb1] at ok
          refine ⟨srt_of hr ok, fun l hl => ?_⟩
          have hr2 : VRs C.K i H ((sortVA bs).map (·.1)) (sortA (keysT kvs)) := by
            rw [← hb1, ← sortVA_snd]
            exact vrs_unzip fun b hb' => hr b (by
              unfold sortVA at hb'
              exact List.mem_mergeSort.mp hb')
          exact p _ i _ (Ext.fresh hl) (s.fresh hl) (.lst upd_same (s.notin hl) (hr2.mono (Ext.fresh hl)))
        · simp only [ok, if_false] at p
          exact False.elim p
/-! ### list(d) -/
def rListD (K : PySem.W.Frag) : List V → Hp → VK → Prop := fun xs H Q => rListOf K xs H Q ∨
  (∃ d kvs, xs = [V.ref d] ∧ Rd H d (.dT kvs) ∧ ∀ p bs, H p = none → IsKeys H kvs bs → Q (.ref p) (upd H p (.lst (bs.map V.ref)))) ∨
  (∃ (a : Addr) (kvs : List (Key × V)), xs = [.ref a] ∧ Rd H a (.dK kvs) ∧ ∀ p, H p = none → Q (.ref p) (upd H p (.lst (kvs.map fun kv => kV kv.1))))
theorem x_listD {X : Cx} (hc : X.calm = true) : CallR X (.type "list") (rListD X.K) := fun pins s σ H xs us Q I r h => by
  rcases h with h | h | h
  · exact x_list pins s σ H xs us Q I r h
  · exact call_list_dT hc pins s σ H xs us Q I r h
  · exact call_listD hc pins s σ H xs us Q I r h
def gListD : List AV → AH → Res AV
  | [a], M => match itemsOf M a with
    | some xs => .ok (.lst xs) M
    | none => match dctT M a with
      | some kvs => .ok (.lst (keysT kvs)) M
      | none => match dctK M a with
        | some kvs => .ok (.lst (keysK kvs)) M
        | none => .stuck
  | _, _ => .stuck
theorem vrt_iskeys {K : PySem.W.Frag} {i : Ix} {M : AH} {H : Hp} (s : Sim K i M H) {us : List (List Key × V)} {as : List (List Key × AV)} {bs : List Addr} (r : VRt K i H us as) (h : IsKeys H us bs) : VRs K i H (bs.map V.ref) (keysT as) := by
  obtain ⟨zs, e1, e2, e3⟩ := iskeys_zip h
  rw [← e2, ← vrt_keys r, ← e1]
  refine vrs_unzip fun b hb => ?_
  obtain ⟨c, ks, rfl, hc⟩ := e3 b hb
  exact vr_keyT s hc
theorem vrk_keysK {K : PySem.W.Frag} {i : Ix} {H : Hp} : ∀ {us : List (Key × V)} {as : List (Key × AV)}, VRk K i H us as → VRs K i H (us.map fun kv => kV kv.1) (keysK as)
  | _, _, .nil => .nil
  | _, _, .cons (k := k) r t => .cons (vrk_key k) (vrk_keysK t)
theorem o_listD {C : Cm} : OpC C (rListD C.K) gListD := fun i M H xs as Q W s r p => by
  match as, r, p with
  | [], _, p => exact False.elim p
  | _ :: _ :: _, _, p => exact False.elim p
  | [a], r, p =>
    obtain ⟨x, rfl, rx⟩ := r.one
    simp only [gListD] at p
    cases e : itemsOf M a with
    | some ys =>
      simp only [e] at p
      obtain ⟨q, us, rfl, h1, h2⟩ := itemsOf_at s rx e
      exact .inl ⟨q, us, rfl, h1, fun l hl => p _ i _ (Ext.fresh hl) (s.fresh hl) (.lst upd_same (s.notin hl) (h2.mono (Ext.fresh hl)))⟩
    | none =>
      simp only [e] at p
      cases e2 : dctT M a with
      | some kvs =>
        simp only [e2] at p
        obtain ⟨q, n, us, rfl, rfl, h1, h2, h3, h4, h5⟩ := dctT_at s rx e2
        exact .inr (.inl ⟨q, us, rfl, h3, fun l bs hl hk => p _ i _ (Ext.fresh hl) (s.fresh hl) (.lst upd_same (s.notin hl) ((vrt_iskeys s h5 hk).mono (Ext.fresh hl)))⟩)
      | none =>
        simp only [e2] at p
        cases e3 : dctK M a with
        | none => simp only [e3] at p; exact False.elim p
        | some kvs =>
          simp only [e3] at p
          obtain ⟨q, n, us, rfl, rfl, h1, h2, h3, h4, h5⟩ := dctK_at s rx e3
          exact .inr (.inr ⟨q, us, rfl, h3, fun l hl => p _ i _ (Ext.fresh hl) (s.fresh hl) (.lst upd_same (s.notin hl) ((vrk_keysK h5).mono (Ext.fresh hl)))⟩)

/-! ### int(b), max(xs), min(xs), max(xs, default=n) of ints -/
def gInt1 : List AV → AH → Res AV
  | [.int i], M => .ok (.int i) M
  | [.bl k], M => .ok (.int (if k then 1 else 0)) M
  | _, _ => .stuck
def rInt1 : List V → Hp → VK → Prop := fun xs H Q => (∃ i, xs = [.int i] ∧ Q (.int i) H) ∨ ∃ k, xs = [.bl k] ∧ Q (.int (if k then 1 else 0)) H
theorem x_int1 {X : Cx} : CallR X (.type "int") rInt1 := call_int1
theorem o_int1 {C : Cm} : OpC C rInt1 gInt1 := fun i M H xs as Q W s r p => by
  match as, r, p with
  | [.int k], r, p =>
    obtain ⟨x, rfl, rx⟩ := r.one
    cases rx
    exact .inl ⟨k, rfl, p.now s (.int _)⟩
  | [.bl k], r, p =>
    obtain ⟨x, rfl, rx⟩ := r.one
    cases rx
    exact .inr ⟨k, rfl, p.now s (.int _)⟩
def intsOf : List AV → Option (List Int)
  | [] => some []
  | .int i :: r => (intsOf r).map (i :: ·)
  | _ :: _ => none
theorem intsOf_at {K : PySem.W.Frag} {i : Ix} {H : Hp} : ∀ {us : List V} {as : List AV} {ns : List Int}, VRs K i H us as → intsOf as = some ns → us = ns.map V.int
  | _, _, _, .nil, e => by cases e; rfl
  | _, _, _, .cons (a := a) r t, e => by
    cases a with
    | int k =>
      simp only [intsOf] at e
      cases q : intsOf _ with
      | none => rw [q] at e; cases e
      | some ms =>
        rw [q] at e
        cases e
        cases r
        rw [List.map_cons, ← intsOf_at t q]
    | _ => cases e
/-- the greatest of n and these -/
def maxI (n : Int) (ns : List Int) : Int := ns.foldl max n
def minI (n : Int) (ns : List Int) : Int := ns.foldl min n
end Mx

/-! Mx15: max and min with default, tuple order as an operator, calls with keywords of built-ins. -/
namespace Mx
open PySem hiding Env
open L2 PySem.Spec PyProof.Rows PySem.W

theorem PK.imp {X : Cx} {kws : List Keyword} {t t' : TA} (h : PK X kws t) (f : ∀ σ H Q, t' σ H Q → t σ H Q) : PK X kws t' := ⟨fun pos pins s σ H Q I q => h.run pos pins s σ H Q I (f σ H Q q)⟩
section
variable {X : Cx} {W : WX} {pos p kpos : Pos} {e : Expr} {es : List Expr} {kws : List Keyword} {m : EM} {n k : AM} {nm : Option Str} {x : Str} {id : String} {ks : List Str}
theorem k_nil : PK X [] (tA (cm X) W mNil) := PK.imp pk_nil fun σ H Q ⟨i, G, M, s, r, p⟩ => p.now s .nil
theorem k_cons (he : PE X e (tE (cm X) W m)) (hr : PK X kws (tA (cm X) W n)) : PK X (⟨nm, e, kpos⟩ :: kws) (tA (cm X) W (mCons m n)) :=
  PK.imp (pk_cons he hr) fun σ H Q h => by
    have h1 := tM.bind (R := RV (cm X)) (m := m) (f := fun G a M1 => (n G M1).bind fun as M2 => .ok (a :: as) M2) h
    refine tM.imp h1 fun x H1 ⟨j, G, a, M, s, r, rr, p⟩ => ?_
    exact ⟨j, G, M, s, r, (post.bind (R := RVs (cm X)) p).imp (fun xs H2 ⟨k, as, M2, e2, s2, rs, p2⟩ => p2.now s2 (.cons (rr.mono e2) rs)) fun _ _ _ z => z⟩
def mCallK (g : List AV → List AV → AH → Res AV) (n k : AM) : EM := fun G M => (n G M).bind fun as M1 => (k G M1).bind fun zs M2 => g as zs M2
def OpCK (C : Cm) (r : List V → List V → Hp → VK → Prop) (g : List AV → List AV → AH → Res AV) : Prop := ∀ i M H xs zs as bs Q W, Sim C.K i M H → VRs C.K i H xs as → VRs C.K i H zs bs → post C (RV C) i H (g as bs M) Q W → r xs zs H Q
theorem e_callBK {r : List V → List V → Hp → VK → Prop} {g : List AV → List AV → AH → Res AV} (hc : CallRK X (.builtin id) ks r) (hg : OpCK (cm X) r g) (hgl : Gl X x) (hm : X.mg x = none) (hv : bootBuiltins x = some (.builtin id)) (ha : PA X (e :: es) (tA (cm X) W n)) (hk : PK X kws (tA (cm X) W k))
    (hn : x ≠ "__name__" := by decide) (hdb : (x == ("__debug__" : Str)) = false := by decide)
    (he : backTo pos (starEach (e :: es) X.env) = (false, eval e X.env) :: backTo pos (starEach es X.env) := by rfl) (hpl : (backTo pos (starEach (e :: es) X.env)).any (·.1) = false := by rfl)
    (hall : (backToKw pos (keywordEach kws X.env)).all (·.1.isSome) = true := by rfl) (hnone : (backToKw pos (keywordEach kws X.env)).any (·.1.isNone) = false := by rfl) (hks : (backToKw pos (keywordEach kws X.env)).filterMap (·.1) = ks := by rfl) :
    PE X (.Call (.Name x p) (e :: es) kws pos) (tE (cm X) W (mCallK g n k)) :=
  PE.imp (pe_callBK hc hgl hm hv ha hk hn hdb he hpl hall hnone hks) fun σ H Q h => by
    have h1 := tM.bind (R := RVs (cm X)) (m := n) (f := fun G as M1 => (k G M1).bind fun zs M2 => g as zs M2) h
    refine tM.imp h1 fun xs H1 ⟨j, G, as, M, s, r, rr, p⟩ => ?_
    exact ⟨j, G, M, s, r, (post.bind (R := RVs (cm X)) p).imp (fun zs H2 ⟨l, bs, M2, e2, s2, rs, p2⟩ => hg l M2 H2 xs zs as bs Q _ s2 (rr.mono e2) rs p2) fun _ _ _ z => z⟩
end

/-! ### max and min of ints, default= -/
theorem reads_ints {h : Heap} : ∀ {us : List Value} {ns : List Int}, IntsAre us ns → ∃ as, ReadsAll h us (ns.map .int) as
  | _, _, .nil => ⟨_, .nil⟩
  | _, _, .cons _ _ r => by
    obtain ⟨as, q⟩ := reads_ints (h := h) r
    exact ⟨_, .cons (.int _ _) q⟩
theorem ints_alike (ns : List Int) : AlikeAll (ns.map PyData.int) := by
  refine ⟨fun x hx y hy => ?_, fun x hx => ?_⟩
  · obtain ⟨i, _, rfl⟩ := List.mem_map.mp hx
    obtain ⟨j, _, rfl⟩ := List.mem_map.mp hy
    simp only [alike]
  · obtain ⟨i, _, rfl⟩ := List.mem_map.mp hx
    intro z
    cases z
def maxD0 (d : Int) : List Int → Int
  | [] => d
  | n :: r => maxI n r
def rMaxDf (K : PySem.W.Frag) : List V → List V → Hp → VK → Prop := fun xs zs H Q => ∃ (a : Addr) (ns : List Int) (d : Int), xs = [.ref a] ∧ zs = [.int d] ∧ SqL K H a (ns.map V.int) ∧ Q (.int (maxD0 d ns)) H
theorem cr_maxDf {X : Cx} (hc : X.calm = true) (hu : X.A.units + 64 < cLine) : CallRK X (.builtin "max") [Str.ofString "default"] (rMaxDf X.K) := by
  intro pins s σ H xs zs us ws Q I rx rz h
  obtain ⟨a, ns, d, rfl, rfl, hs, q⟩ := h
  obtain ⟨its, rv, hl, hz⟩ := I.list hs
  rw [Vals.ref1 rx]
  obtain ⟨w1, rfl, e1⟩ := vals1 rz
  obtain ⟨t, rfl⟩ := e1
  obtain ⟨as, ra⟩ := reads_ints (h := s.heap) rv.ints
  refine max_list_default (A := X.A) (I.ok.hd hc) hl.isList (xs := ns.map .int) (as := as) (by simpa using ra) (ints_alike ns) (by rw [depth_ints]; omega) (fun e h' tk hk => ?_) (fun y ys i v h' tk bs e hv rd hk => ?_)
  · have e : ns = [] := by simpa using e
    subst e
    exact ⟨.int d, H, I.kept hk, ⟨t, rfl⟩, q⟩
  · cases ns with
    | nil => cases e
    | cons n r =>
      rw [List.map_cons] at e
      injection e with e1 e2
      subst e1
      subst e2
      rw [maxD_ints] at rd
      cases rd
      exact ⟨.int _, H, I.kept hk, ⟨_, rfl⟩, q⟩
def gMaxDf : List AV → List AV → AH → Res AV
  | [a], [.int d], M => match (lstR M a).bind intsOf with
    | some ns => .ok (.int (maxD0 d ns)) M
    | none => .stuck
  | _, _, _ => .stuck
theorem o_maxDf {C : Cm} : OpCK C (rMaxDf C.K) gMaxDf := fun i M H xs zs as bs Q W s r r2 p => by
  match as, bs, r, r2, p with
  | [a], [.int d], r, r2, p =>
    obtain ⟨x, rfl, rx⟩ := r.one
    obtain ⟨z, rfl, rz⟩ := r2.one
    cases rz
    simp only [gMaxDf] at p
    cases e : lstR M a with
    | none => simp only [e, Option.bind_none] at p; exact False.elim p
    | some ys =>
      simp only [e, Option.bind_some] at p
      cases e2 : intsOf ys with
      | none => simp only [e2] at p; exact False.elim p
      | some ns =>
        simp only [e2] at p
        obtain ⟨q, us, rfl, h1, h2⟩ := lstR_at s rx e
        rw [intsOf_at h2 e2] at h1
        exact ⟨q, ns, d, rfl, rfl, h1, p.now s (.int _)⟩
def rMaxA (K : PySem.W.Frag) : List V → Hp → VK → Prop := rMax K
def gMax : List AV → AH → Res AV
  | [a], M => match (lstR M a).bind intsOf with
    | some (n :: r) => .ok (.int (maxI n r)) M
    | _ => .stuck
  | _, _ => .stuck
theorem foldmax_ge : ∀ (r : List Int) (n : Int), n ≤ r.foldl max n ∧ (∀ y ∈ r, y ≤ r.foldl max n) ∧ (r.foldl max n = n ∨ r.foldl max n ∈ r)
  | [], n => ⟨Int.le_refl _, by simp, .inl rfl⟩
  | x :: r, n => by
    obtain ⟨h1, h2, h3⟩ := foldmax_ge r (max n x)
    rw [List.foldl_cons]
    refine ⟨by omega, fun y hy => ?_, ?_⟩
    · rcases List.mem_cons.mp hy with rfl | hy
      · omega
      · exact h2 y hy
    · rcases h3 with h3 | h3
      · rw [h3]
        rcases Int.le_total n x with q | q
        · right
          have : max n x = x := by omega
          rw [this]
          simp
        · left
          omega
      · right
        simp [h3]
theorem o_max {C : Cm} : OpC C (rMax C.K) gMax := fun i M H xs as Q W s r p => by
  match as, r, p with
  | [], _, p => exact False.elim p
  | _ :: _ :: _, _, p => exact False.elim p
  | [a], r, p =>
    obtain ⟨x, rfl, rx⟩ := r.one
    simp only [gMax] at p
    cases e : lstR M a with
    | none => simp only [e, Option.bind_none] at p; exact False.elim p
    | some ys =>
      simp only [e, Option.bind_some] at p
      cases e2 : intsOf ys with
      | none => simp only [e2] at p; exact False.elim p
      | some ns =>
        cases ns with
        | nil => simp only [e2] at p; exact False.elim p
        | cons n t =>
          simp only [e2] at p
          obtain ⟨q, us, rfl, h1, h2⟩ := lstR_at s rx e
          rw [intsOf_at h2 e2] at h1
          refine ⟨q, n :: t, rfl, h1, by simp, fun m hm hy => ?_⟩
          obtain ⟨g1, g2, g3⟩ := foldmax_ge t n
          have em : m = maxI n t := by
            have h3 : maxI n t ≤ m := by
              rcases g3 with g3 | g3
              · unfold maxI; rw [g3]; exact hy n (by simp)
              · exact hy _ (List.mem_cons_of_mem _ g3)
            have h4 : m ≤ maxI n t := by
              rcases List.mem_cons.mp hm with z | z
              · rw [z]; exact g1
              · exact g2 m z
            omega
          rw [em]
          exact p.now s (.int _)
end Mx

/-! Mx16: loops over zip, enumerate, reversed. -/
namespace Mx
open PySem hiding Env
open L2 PySem.Spec
def lvA : AV → Option (List AV)
  | .lst xs => some xs
  | .fro xs => some xs
  | _ => none
def tvA : AV → Option (List AV)
  | .tup xs => some xs
  | .tuc xs => some xs
  | _ => none
def zipA (xs ys : List AV) : List AV := List.zipWith (fun a b => .tup [a, b]) xs ys
def enumA (xs : List AV) : List AV := xs.mapIdx fun i a => .tup [.int (i : Nat), a]
section
variable {C : Cm} {i : Ix} {M : AH} {H : Hp}
theorem lvA_at {v : V} {a : AV} {as : List AV} (r : VR C.K i H v a) (h : lvA a = some as) : ∃ p us, v = .ref p ∧ (∀ j H', Ext i j H H' → SqL C.K H' p us) ∧ VRs C.K i H us as := by
  cases r with
  | lst h1 hn h2 => cases h; exact ⟨_, _, rfl, fun k H2 e2 => SqL.of (e2.same hn h1), h2⟩
  | fro h1 h2 => cases h; exact ⟨_, _, rfl, kl_ext h1, h2⟩
  | _ => cases h
theorem tvA_at {v : V} {a : AV} {as : List AV} (r : VR C.K i H v a) (h : tvA a = some as) : ∃ p us, v = .ref p ∧ (∀ j H', Ext i j H H' → SqT C.K H' p us) ∧ VRs C.K i H us as := by
  cases r with
  | tup h1 hn h2 => cases h; exact ⟨_, _, rfl, fun k H2 e2 => sq_of (e2.same hn h1), h2⟩
  | tuc h1 h2 => cases h; exact ⟨_, _, rfl, fun k H2 e2 => (h1.mono e2).sq, h2⟩
  | _ => cases h
theorem pair_new {j : Ix} {M : AH} {H : Hp} {T : Addr} {x y : V} {a b : AV} (hT : H T = none) (s : Sim C.K j M H) (rx : VR C.K j H x a) (ry : VR C.K j H y b) :
    Ext j j H (upd H T (.tup [x, y])) ∧ Sim C.K j M (upd H T (.tup [x, y])) ∧ VR C.K j (upd H T (.tup [x, y])) (.ref T) (.tup [a, b]) :=
  ⟨Ext.fresh hT, s.fresh hT, .tup upd_same (s.notin hT) (.cons (rx.mono (Ext.fresh hT)) (.cons (ry.mono (Ext.fresh hT)) .nil))⟩
theorem zip_get {xs ys : List AV} {k : Nat} {a : AV} (h : (zipA xs ys)[k]? = some a) : ∃ x y, xs[k]? = some x ∧ ys[k]? = some y ∧ a = .tup [x, y] := by
  unfold zipA at h
  rw [List.getElem?_zipWith] at h
  cases hx : xs[k]? with
  | none => simp [hx] at h
  | some x =>
    cases hy : ys[k]? with
    | none => simp [hx, hy] at h
    | some y =>
      simp [hx, hy] at h
      exact ⟨x, y, rfl, rfl, h.symm⟩
theorem zip_len (xs ys : List AV) : (zipA xs ys).length = min xs.length ys.length := List.length_zipWith
theorem it_zip {a b : Addr} {us vs : List V} {as bs : List AV} (q : ∀ j H', Ext i j H H' → SqL C.K H' a us) (q2 : ∀ j H', Ext i j H H' → SqL C.K H' b vs) (r : VRs C.K i H us as) (r2 : VRs C.K i H vs bs) : ItOk C i H (Itz C.K a b) ⟨zipA as bs, none⟩ where
  go := fun k j M H' e _ _ hk => by
    rw [zip_len] at hk
    have h1 : k < us.length := by rw [r.len]; omega
    have h2 : k < vs.length := by rw [r2.len]; omega
    exact ⟨us, vs, us[k], vs[k], q j H' e, q2 j H' e, List.getElem?_eq_getElem h1, List.getElem?_eq_getElem h2⟩
  yld := fun k j M H' x H2 a' e s _ ha y => by
    obtain ⟨x', y', hx, hy, rfl⟩ := zip_get ha
    obtain ⟨T, u, v, e0, hT, e1, g1, g2⟩ := y
    subst e0
    subst e1
    obtain ⟨u', h1, h2⟩ := r.at hx
    obtain ⟨v', h3, h4⟩ := r2.at hy
    have z1 := g1 us (q j _ e)
    have z2 := g2 vs (q2 j _ e)
    rw [h1] at z1
    rw [h3] at z2
    cases z1
    cases z2
    exact pair_new hT s (h2.mono e) (h4.mono e)
  stop := fun k j M H' e _ _ hk => by
    rw [zip_len] at hk
    refine ⟨us, vs, q j H' e, q2 j H' e, ?_⟩
    rw [r.len, r2.len]
    omega
theorem it_zipT {a b : Addr} {us vs : List V} {as bs : List AV} (q : ∀ j H', Ext i j H H' → SqT C.K H' a us) (q2 : ∀ j H', Ext i j H H' → SqT C.K H' b vs) (r : VRs C.K i H us as) (r2 : VRs C.K i H vs bs) : ItOk C i H (RZ.ItzT C.K a b) ⟨zipA as bs, none⟩ where
  go := fun k j M H' e _ _ hk => by
    rw [zip_len] at hk
    have h1 : k < us.length := by rw [r.len]; omega
    have h2 : k < vs.length := by rw [r2.len]; omega
    exact ⟨us, vs, us[k], vs[k], q j H' e, q2 j H' e, List.getElem?_eq_getElem h1, List.getElem?_eq_getElem h2⟩
  yld := fun k j M H' x H2 a' e s _ ha y => by
    obtain ⟨x', y', hx, hy, rfl⟩ := zip_get ha
    obtain ⟨T, u, v, e0, hT, e1, g1, g2⟩ := y
    subst e0
    subst e1
    obtain ⟨u', h1, h2⟩ := r.at hx
    obtain ⟨v', h3, h4⟩ := r2.at hy
    have z1 := g1 us (q j _ e)
    have z2 := g2 vs (q2 j _ e)
    rw [h1] at z1
    rw [h3] at z2
    cases z1
    cases z2
    exact pair_new hT s (h2.mono e) (h4.mono e)
  stop := fun k j M H' e _ _ hk => by
    rw [zip_len] at hk
    refine ⟨us, vs, q j H' e, q2 j H' e, ?_⟩
    rw [r.len, r2.len]
    omega
theorem it_enum {a : Addr} {us : List V} {as : List AV} (q : ∀ j H', Ext i j H H' → SqL C.K H' a us) (r : VRs C.K i H us as) : ItOk C i H (Ite C.K a) ⟨enumA as, none⟩ where
  go := fun k j M H' e _ _ hk => by
    have hk : k < as.length := by simpa [enumA] using hk
    have h1 : k < us.length := by rw [r.len]; exact hk
    exact ⟨us, us[k], q j H' e, List.getElem?_eq_getElem h1⟩
  yld := fun k j M H' x H2 a' e s _ ha y => by
    obtain ⟨T, u, e0, hT, e1, g1⟩ := y
    subst e0
    subst e1
    have ha : (enumA as)[k]? = some a' := ha
    unfold enumA at ha
    rw [List.getElem?_mapIdx] at ha
    cases hx : as[k]? with
    | none => rw [hx] at ha; cases ha
    | some x' =>
      rw [hx] at ha
      have ea : a' = .tup [.int (k : Nat), x'] := (Option.some.inj ha).symm
      subst ea
      obtain ⟨u', h1, h2⟩ := r.at hx
      have z1 := g1 us (q j _ e)
      rw [h1] at z1
      cases z1
      exact pair_new hT s (.int _) (h2.mono e)
  stop := fun k j M H' e _ _ hk => by
    have hk : as.length ≤ k := by simpa [enumA] using hk
    exact ⟨us, q j H' e, by rw [r.len]; exact hk⟩
theorem it_rev {a : Addr} {us : List V} {as : List AV} (q : ∀ j H', Ext i j H H' → SqL C.K H' a us) (r : VRs C.K i H us as) : ItOk C i H (Itv C.K a us.length) ⟨as.reverse, none⟩ where
  go := fun k j M H' e _ _ hk => by
    have hk : k < as.length := by simpa using hk
    have h1 : us.length - 1 - k < us.length := by rw [r.len]; omega
    exact ⟨by rw [r.len]; exact hk, us, us[us.length - 1 - k], q j H' e, List.getElem?_eq_getElem h1⟩
  yld := fun k j M H' x H2 a' e s _ ha y => by
    obtain ⟨e1, y⟩ := y
    subst e1
    have hk : k < as.length := by
      have := (List.getElem?_eq_some_iff.mp ha).1
      simpa using this
    have ha : as.reverse[k]? = some a' := ha
    rw [List.getElem?_reverse hk] at ha
    obtain ⟨v, h1, h2⟩ := r.at ha
    have hx := y us (q j _ e)
    rw [r.len, h1] at hx
    cases hx
    exact ⟨Ext.refl, s, h2.mono e⟩
  stop := fun k j M H' e _ _ hk => by
    show us.length ≤ k
    rw [r.len]
    simpa using hk
theorem it_revT {a : Addr} {us : List V} {as : List AV} (q : ∀ j H', Ext i j H H' → SqT C.K H' a us) (r : VRs C.K i H us as) : ItOk C i H (RT.ItvT C.K a us.length) ⟨as.reverse, none⟩ where
  go := fun k j M H' e _ _ hk => by
    have hk : k < as.length := by simpa using hk
    have h1 : us.length - 1 - k < us.length := by rw [r.len]; omega
    exact ⟨by rw [r.len]; exact hk, us, us[us.length - 1 - k], q j H' e, List.getElem?_eq_getElem h1⟩
  yld := fun k j M H' x H2 a' e s _ ha y => by
    obtain ⟨e1, y⟩ := y
    subst e1
    have hk : k < as.length := by
      have := (List.getElem?_eq_some_iff.mp ha).1
      simpa using this
    have ha : as.reverse[k]? = some a' := ha
    rw [List.getElem?_reverse hk] at ha
    obtain ⟨v, h1, h2⟩ := r.at ha
    have hx := y us (q j _ e)
    rw [r.len, h1] at hx
    cases hx
    exact ⟨Ext.refl, s, h2.mono e⟩
  stop := fun k j M H' e _ _ hk => by
    show us.length ≤ k
    rw [r.len]
    simpa using hk
end
def gZip (as : List AV) (M : AH) : Res Src := match as with
  | [a, b] => match lvA a, lvA b with
    | some xs, some ys => .ok ⟨zipA xs ys, none⟩ M
    | _, _ => match tvA a, tvA b with
      | some xs, some ys => .ok ⟨zipA xs ys, none⟩ M
      | _, _ => .stuck
  | _ => .stuck
def mZip (n : AM) : IM := fun G M => (n G M).bind fun as M1 => gZip as M1
def gEnum (as : List AV) (M : AH) : Res Src := match as with
  | [a] => match lvA a with
    | some xs => .ok ⟨enumA xs, none⟩ M
    | _ => .stuck
  | _ => .stuck
def mEnum (n : AM) : IM := fun G M => (n G M).bind fun as M1 => gEnum as M1
def gRev (a : AV) (M : AH) : Res Src := match lvA a with
  | some xs => .ok ⟨xs.reverse, none⟩ M
  | none => match tvA a with
    | some xs => .ok ⟨xs.reverse, none⟩ M
    | none => .stuck
def mRev (m : EM) : IM := fun G M => (m G M).bind fun a M1 => gRev a M1
section
variable {X : Cx} {W : WX} {tg a b e : Expr} {n : AM} {m : EM} {p pos tpos : Pos} {elts : List Expr} {kk : Nat}
theorem i_zip (hg : Gl X "zip") (hm : X.mg "zip" = none) (ha : PA X [a, b] (tA (cm X) W n)) (hs : starEach [a, b] X.env = (false, eval a X.env) :: starEach [b] X.env := by rfl) (hpl : (backTo pos (starEach [b] X.env)).any (·.1) = false := by rfl) :
    PI X (.Tuple elts kk tpos) (.Call (.Name "zip" p) [a, b] [] pos) (tI (cm X) W (mZip n)) :=
  PI.imp (RZ.pi_zipA hg hm ha hs hpl) fun σ H R hw => by
    have h1 := tI.bind (R := RVs (cm X)) (m := n) (f := fun G as M1 => gZip as M1) hw
    refine tM.imp h1 fun vs H1 ⟨j, G, as, M, s, r, rr, q⟩ => ?_
    match as, rr, q with
    | [], _, q => exact q.elim
    | [_], _, q => exact q.elim
    | _ :: _ :: _ :: _, _, q => exact q.elim
    | [a1, a2], .cons r1 (.cons r2 .nil), q =>
          have q : postI (cm X) j H1 (gZip [a1, a2] M) R (fun c d H' => W c d σ H') := q
          unfold gZip at q
          cases e1 : lvA a1 with
          | some xs =>
            cases e2 : lvA a2 with
            | some ys =>
              simp only [e1, e2] at q
              obtain ⟨p1, us, rfl, g1, g2⟩ := lvA_at (C := cm X) r1 e1
              obtain ⟨p2, vs, rfl, g3, g4⟩ := lvA_at (C := cm X) r2 e2
              exact ⟨p1, p2, us, vs, rfl, .inl ⟨g1 j H1 Ext.refl, g3 j H1 Ext.refl, q _ j H1 Ext.refl s (it_zip g1 g3 g2 g4)⟩⟩
            | none =>
              simp only [e1, e2] at q
              cases a1 with
              | lst _ => exact q.elim
              | fro _ => exact q.elim
              | _ => cases e1
          | none =>
            simp only [e1] at q
            cases e3 : tvA a1 with
            | none => simp only [e3] at q; exact q.elim
            | some xs =>
              cases e4 : tvA a2 with
              | none => simp only [e3, e4] at q; exact q.elim
              | some ys =>
                simp only [e3, e4] at q
                obtain ⟨p1, us, rfl, g1, g2⟩ := tvA_at (C := cm X) r1 e3
                obtain ⟨p2, vs, rfl, g3, g4⟩ := tvA_at (C := cm X) r2 e4
                exact ⟨p1, p2, us, vs, rfl, .inr ⟨g1 j H1 Ext.refl, g3 j H1 Ext.refl, q _ j H1 Ext.refl s (it_zipT g1 g3 g2 g4)⟩⟩
theorem i_enum (hg : Gl X "enumerate") (hm : X.mg "enumerate" = none) (ha : PA X [a] (tA (cm X) W n)) (hs : starEach [a] X.env = [(false, eval a X.env)] := by rfl) :
    PI X (.Tuple elts kk tpos) (.Call (.Name "enumerate" p) [a] [] pos) (tI (cm X) W (mEnum n)) :=
  PI.imp (pi_enum hg hm ha hs) fun σ H R hw => by
    have h1 := tI.bind (R := RVs (cm X)) (m := n) (f := fun G as M1 => gEnum as M1) hw
    refine tM.imp h1 fun vs H1 ⟨j, G, as, M, s, r, rr, q⟩ => ?_
    match as, rr, q with
    | [], _, q => exact q.elim
    | _ :: _ :: _, _, q => exact q.elim
    | [a1], .cons r1 .nil, q =>
        have q : postI (cm X) j H1 (gEnum [a1] M) R (fun c d H' => W c d σ H') := q
        unfold gEnum at q
        cases e1 : lvA a1 with
        | none => simp only [e1] at q; exact q.elim
        | some xs =>
          simp only [e1] at q
          obtain ⟨p1, us, rfl, g1, g2⟩ := lvA_at (C := cm X) r1 e1
          exact ⟨p1, us, rfl, g1 j H1 Ext.refl, q _ j H1 Ext.refl s (it_enum g1 g2)⟩
theorem i_rev (hg : Gl X "reversed") (hm : X.mg "reversed" = none) (he : PE X e (tE (cm X) W m)) (hs : starEach [e] X.env = (false, eval e X.env) :: starEach [] X.env := by rfl) : PI X tg (.Call (.Name "reversed" p) [e] [] pos) (tI (cm X) W (mRev m)) :=
  PI.imp (RT.pi_revA hg hm he hs) fun σ H R hw => by
    have h1 := tI.bind (R := RV (cm X)) (m := m) (f := fun G a M1 => gRev a M1) hw
    refine tM.imp h1 fun v H1 ⟨j, G, a1, M, s, r, rr, q⟩ => ?_
    have q : postI (cm X) j H1 (gRev a1 M) R (fun c d H' => W c d σ H') := q
    unfold gRev at q
    cases e1 : lvA a1 with
    | some xs =>
      simp only [e1] at q
      obtain ⟨p1, us, rfl, g1, g2⟩ := lvA_at (C := cm X) rr e1
      exact ⟨p1, us, rfl, .inl ⟨g1 j H1 Ext.refl, q _ j H1 Ext.refl s (it_rev g1 g2)⟩⟩
    | none =>
      simp only [e1] at q
      cases e2 : tvA a1 with
      | none => simp only [e2] at q; exact q.elim
      | some xs =>
        simp only [e2] at q
        obtain ⟨p1, us, rfl, g1, g2⟩ := tvA_at (C := cm X) rr e2
        exact ⟨p1, us, rfl, .inr ⟨g1 j H1 Ext.refl, q _ j H1 Ext.refl s (it_revT g1 g2)⟩⟩
end

/-! ### a, b = x, y with local names -/
def mPar (i j : Nat) (n : AM) : SM := fun G M => (n G M).st G fun as M1 => match as with
  | [a, b] => .next ((G.set i (some a)).set j (some b)) M1
  | _ => .stuck
def mPar3 (i j k : Nat) (n : AM) : SM := fun G M => (n G M).st G fun as M1 => match as with
  | [a, b, c] => .next (((G.set i (some a)).set j (some b)).set k (some c)) M1
  | _ => .stuck
section
variable {X : Cx} {W : WX} {i j k : Nat} {x y z : Str} {a b c : Expr} {n : AM} {px py pz pt pos : Pos} {kt : Nat} {k2 : Nat} {pt2 : Pos}
theorem s_par (h : ∀ {ta : TA}, PA X [a, b] ta → PS X (.Assign [.Tuple [.Name x px, .Name y py] kt pt] (.Tuple [a, b] k2 pt2) pos) (tPar i j ta)) (ha : PA X [a, b] (tA (cm X) W n)) :
    PS X (.Assign [.Tuple [.Name x px, .Name y py] kt pt] (.Tuple [a, b] k2 pt2) pos) (tS (cm X) W (mPar i j n)) := PS.imp (h ha) fun D σ H h => by
  have h1 := tS.st (R := RVs (cm X)) (m := n) (f := fun G as M1 => match as with | [a, b] => SR.next ((G.set i (some a)).set j (some b)) M1 | _ => .stuck) h
  refine tM.imp h1 fun vs H1 ⟨j', G, as, M, s, r, rr, p⟩ => ?_
  match as, rr, p with
  | [], _, p => exact False.elim p
  | [_], _, p => exact False.elim p
  | _ :: _ :: _ :: _, _, p => exact False.elim p
  | [a1, a2], .cons r1 (.cons r2 .nil), p => exact ⟨_, _, rfl, p _ j' H1 Ext.refl s ((r.set r1).set r2)⟩
theorem s_par3 (h : ∀ {ta : TA}, PA X [a, b, c] ta → PS X (.Assign [.Tuple [.Name x px, .Name y py, .Name z pz] kt pt] (.Tuple [a, b, c] k2 pt2) pos) (tPar3 i j k ta)) (ha : PA X [a, b, c] (tA (cm X) W n)) :
    PS X (.Assign [.Tuple [.Name x px, .Name y py, .Name z pz] kt pt] (.Tuple [a, b, c] k2 pt2) pos) (tS (cm X) W (mPar3 i j k n)) := PS.imp (h ha) fun D σ H h => by
  have h1 := tS.st (R := RVs (cm X)) (m := n) (f := fun G as M1 => match as with | [a, b, c] => SR.next (((G.set i (some a)).set j (some b)).set k (some c)) M1 | _ => .stuck) h
  refine tM.imp h1 fun vs H1 ⟨j', G, as, M, s, r, rr, p⟩ => ?_
  match as, rr, p with
  | [], _, p => exact False.elim p
  | [_], _, p => exact False.elim p
  | [_, _], _, p => exact False.elim p
  | _ :: _ :: _ :: _ :: _, _, p => exact False.elim p
  | [a1, a2, a3], .cons r1 (.cons r2 (.cons r3 .nil)), p => exact ⟨_, _, _, rfl, p _ j' H1 Ext.refl s (((r.set r1).set r2).set r3)⟩
end
end Mx

/-! Mx17: dicts gone through: locked meanwhile. -/
namespace Mx
open PySem hiding Env
open L2 PySem.Spec
/-- the number of the dict that an expression tells, if it looks only -/
def selM (me : EM) (G : Env) (M : AH) : Option Nat := match me G M with
  | .ok (.ref n) _ => match M.objs[n]? with
    | some (.dK _) => if n ∈ M.fz then none else some n
    | some (.dT _) => if n ∈ M.fz then none else some n
    | _ => none
  | _ => none
def lk (M : AH) (n : Nat) : AH := ⟨M.objs, n :: M.fz⟩
def ulk (M : AH) (fz : List Nat) : AH := ⟨M.objs, fz⟩
def mLockE (me m : EM) : EM := fun G M => match selM me G M with
  | some n => (match m G (lk M n) with
    | .ok a M' => if M'.fz = n :: M.fz then .ok a (ulk M' M.fz) else .stuck
    | _ => .stuck)
  | none => .stuck
def mLockS (me : EM) (m : SM) : SM := fun G M => match selM me G M with
  | some n => (match m G (lk M n) with
    | .next G' M' => if M'.fz = n :: M.fz then .next G' (ulk M' M.fz) else .stuck
    | .ret a M' => if M'.fz = n :: M.fz then .ret a (ulk M' M.fz) else .stuck
    | .brk G' M' => if M'.fz = n :: M.fz then .brk G' (ulk M' M.fz) else .stuck
    | .cnt G' M' => if M'.fz = n :: M.fz then .cnt G' (ulk M' M.fz) else .stuck
    | _ => .stuck)
  | none => .stuck
theorem selM_some {me : EM} {G : Env} {M : AH} {n : Nat} (h : selM me G M = some n) : n ∉ M.fz ∧ ((∃ kvs, M.objs[n]? = some (.dK kvs)) ∨ ∃ kvs, M.objs[n]? = some (.dT kvs)) := by
  unfold selM at h
  cases e : me G M with
  | ok a M1 =>
    rw [e] at h
    cases a with
    | ref k =>
      simp only at h
      cases e2 : M.objs[k]? with
      | none => rw [e2] at h; cases h
      | some c =>
        rw [e2] at h
        cases c with
        | dK kvs =>
          simp only at h
          by_cases hf : k ∈ M.fz
          · rw [if_pos hf] at h; cases h
          · rw [if_neg hf] at h
            cases h
            exact ⟨hf, .inl ⟨kvs, e2⟩⟩
        | dT kvs =>
          simp only at h
          by_cases hf : k ∈ M.fz
          · rw [if_pos hf] at h; cases h
          · rw [if_neg hf] at h
            cases h
            exact ⟨hf, .inr ⟨kvs, e2⟩⟩
        | _ => cases h
    | _ => cases h
  | exc c fs M1 => rw [e] at h; cases h
  | stuck => rw [e] at h; cases h
/-- what stands there, when it is to be locked -/
structure LkAt (K : PySem.W.Frag) (i : Ix) (M : AH) (H : Hp) (n : Nat) (a : Addr) (u : HO) : Prop where
  num : i.num[n]? = some a
  at' : H a = some u
  mu : Mut (some u)
  nfz : ∀ o u', u ≠ .frz o u'
  lock : ∀ od, Ext i i H (upd H a (.frz od u)) ∧ Sim K i (lk M n) (upd H a (.frz od u))
  unlock : ∀ od j M' H', Ext i j (upd H a (.frz od u)) H' → Sim K j M' H' → M'.fz = n :: M.fz → H' a = some (.frz od u) ∧ Ext i j H (upd H' a u) ∧ Sim K j (ulk M' M.fz) (upd H' a u) ∧ Carry j j H' (upd H' a u)
theorem lk_at {K : PySem.W.Frag} {i : Ix} {M : AH} {H : Hp} {n : Nat} (s : Sim K i M H) (hn : n ∉ M.fz) (hd : (∃ kvs, M.objs[n]? = some (.dK kvs)) ∨ ∃ kvs, M.objs[n]? = some (.dT kvs)) : ∃ a u, LkAt K i M H n a u := by
  have set_same : ∀ (M' : AH) (c : AV) (fz : List Nat), M'.objs[n]? = some c → (⟨M'.objs.set n c, fz⟩ : AH) = ⟨M'.objs, fz⟩ := fun M' c fz h => by
    have : M'.objs.set n c = M'.objs := by
      apply List.ext_getElem?
      intro j
      by_cases e : j = n
      · subst e
        rw [h, List.getElem?_set_self (List.getElem?_eq_some_iff.mp h).1]
      · rw [List.getElem?_set_ne (Ne.symm e)]
    rw [this]
  have main : ∀ (a : Addr) (u : HO) (c : AV), i.num[n]? = some a → M.objs[n]? = some c → H a = some u → Mut (some u) → (∀ o u', u ≠ .frz o u') →
      (∀ od, OR K i (upd H a (.frz od u)) a True c) →
      (∀ (od : Obj) j M' H' d, Sim K j M' H' → j.num[n]? = some a → M'.objs[n]? = some d → H' a = some (.frz od u) → OR K j (upd H' a u) a False d) → LkAt K i M H n a u := fun a u c ha hc hu hm hz ol ou => by
    have han : a ∈ i.num := List.mem_of_getElem? ha
    have hf : ∀ o u', H a ≠ some (.frz o u') := fun o u' z => by
      rw [hu] at z
      exact hz o u' (Option.some.inj z)
    refine ⟨ha, hu, hm, hz, fun od => ⟨Ext.mut han hf, ?_⟩, fun od j M' H' e s' hfz => ?_⟩
    · have := s.set (c := c) (fz := n :: M.fz) ha ((ol od).fr fun _ => List.mem_cons_self) (fun m _ hm => List.mem_cons_of_mem _ hm) (fun m hm => by
        rcases List.mem_cons.mp hm with z | z
        · exact .inr ⟨z, od, u, rfl⟩
        · exact .inl ⟨fun e => hn (e ▸ z), z⟩)
      rwa [set_same M c _ hc] at this
    · have h1 : H' a = some (.frz od u) := e.fro a od u upd_same
      have hj : j.num[n]? = some a := e.get ha
      have haj : a ∈ j.num := List.mem_of_getElem? hj
      obtain ⟨d, hd, _⟩ := s'.get hj
      refine ⟨h1, ⟨e.app, e.prv, fun b hb hi => ?_, fun b hb hi => ?_, fun b v hb hv => ?_, fun b o v hv => ?_⟩, ?_, Carry.mutn haj⟩
      · have q := e.hid b hb hi
        have ne : b ≠ a := fun z => hi (.inl (z ▸ han))
        rwa [upd_ne ne] at q
      · have q := e.new b hb hi
        have ne : b ≠ a := fun z => hi (z ▸ han)
        rwa [upd_ne ne] at q
      · have ne : b ≠ a := fun z => hb (z ▸ han)
        rw [upd_ne ne]
        exact e.keep b v hb (by rw [upd_ne ne]; exact hv)
      · have ne : b ≠ a := fun z => hf o v (z ▸ hv)
        rw [upd_ne ne]
        exact e.fro b o v (by rw [upd_ne ne]; exact hv)
      · have := s'.set (c := d) (fz := M.fz) hj ((ou od j M' H' d s' hj hd h1).fr fun z => z.elim) (fun m ne hm => by
          rw [hfz] at hm
          rcases List.mem_cons.mp hm with z | z
          · exact absurd z ne
          · exact z) (fun m hm => .inl ⟨fun e => hn (e ▸ hm), by rw [hfz]; exact List.mem_cons_of_mem _ hm⟩)
        rwa [set_same M' d _ hd] at this
  rcases hd with ⟨kvs, hd⟩ | ⟨kvs, hd⟩
  · obtain ⟨a, ha, o⟩ := s.at hd
    cases o with
    | @dK us as h1 h2 =>
      have hu : H a = some (.dK us) := by
        rcases h1 with h1 | ⟨h0, _⟩
        · exact h1
        · exact absurd h0 hn
      have han : a ∈ i.num := List.mem_of_getElem? ha
      refine ⟨a, _, main a _ _ ha hd hu trivial (fun _ _ z => by cases z) (fun od => .dK (.inr ⟨trivial, od, upd_same⟩) (h2.carry (Carry.mutn han))) fun od j M' H' d s' hj hd' h3 => ?_⟩
      have o' := s'.obj n a d hj hd'
      cases o' with
      | lst z _ => rw [h3] at z; cases z
      | dK z h4 =>
        rcases z with z | ⟨_, o2, z⟩
        · rw [h3] at z; cases z
        · rw [h3] at z
          cases z
          exact .dK (.inl upd_same) (h4.carry (Carry.mutn (List.mem_of_getElem? hj)))
      | dT z _ =>
        rcases z with z | ⟨_, o2, z⟩
        · rw [h3] at z; cases z
        · rw [h3] at z; cases z
  · obtain ⟨a, ha, o⟩ := s.at hd
    cases o with
    | @dT us as h1 h2 =>
      have hu : H a = some (.dT us) := by
        rcases h1 with h1 | ⟨h0, _⟩
        · exact h1
        · exact absurd h0 hn
      have han : a ∈ i.num := List.mem_of_getElem? ha
      refine ⟨a, _, main a _ _ ha hd hu trivial (fun _ _ z => by cases z) (fun od => .dT (.inr ⟨trivial, od, upd_same⟩) (h2.carry (Carry.mutn han))) fun od j M' H' d s' hj hd' h3 => ?_⟩
      have o' := s'.obj n a d hj hd'
      cases o' with
      | lst z _ => rw [h3] at z; cases z
      | dT z h4 =>
        rcases z with z | ⟨_, o2, z⟩
        · rw [h3] at z; cases z
        · rw [h3] at z
          cases z
          exact .dT (.inl upd_same) (h4.carry (Carry.mutn (List.mem_of_getElem? hj)))
      | dK z _ =>
        rcases z with z | ⟨_, o2, z⟩
        · rw [h3] at z; cases z
        · rw [h3] at z; cases z
section
variable {X : Cx} {W : WX} {e : Expr} {st : Stmt} {me m : EM} {b : SM}
theorem e_lock (he : PE X e (tE (cm X) W m)) : PE X e (tE (cm X) W (mLockE me m)) :=
  PE.imp (pe_lock he) fun σ H Q ⟨i, G, M, s, r, p⟩ => by
    unfold mLockE at p
    cases es : selM me G M with
    | none => rw [es] at p; exact False.elim p
    | some n =>
      rw [es] at p
      obtain ⟨hn, hd⟩ := selM_some es
      obtain ⟨a, u, L⟩ := lk_at s hn hd
      refine ⟨a, u, L.at', L.mu, fun od => ?_⟩
      obtain ⟨e1, s1⟩ := L.lock od
      refine ⟨i, G, lk M n, s1, r.mono e1, ?_⟩
      cases em : m G (lk M n) with
      | ok x M' =>
        simp only [em] at p
        by_cases hf : M'.fz = n :: M.fz
        · rw [if_pos hf] at p
          intro v j H' e2 s2 rv
          obtain ⟨g1, g2, g3, g4⟩ := L.unlock od j M' H' e2 s2 hf
          exact ⟨g1, p v j _ g2 g3 (VR.carry g4 _ _ rv)⟩
        · rw [if_neg hf] at p
          exact False.elim p
      | exc c fs M' => simp only [em] at p; exact False.elim p
      | stuck => simp only [em] at p; exact False.elim p
theorem s_lock (hs : PS X st (tS (cm X) W b)) : PS X st (tS (cm X) W (mLockS me b)) :=
  PS.imp (ps_lock hs) fun D σ H ⟨i, G, M, s, r, p⟩ => by
    unfold mLockS at p
    cases es : selM me G M with
    | none => rw [es] at p; exact False.elim p
    | some n =>
      rw [es] at p
      obtain ⟨hn, hd⟩ := selM_some es
      obtain ⟨a, u, L⟩ := lk_at s hn hd
      refine ⟨a, u, L.at', L.mu, fun od => ?_⟩
      obtain ⟨e1, s1⟩ := L.lock od
      refine ⟨i, G, lk M n, s1, r.mono e1, ?_⟩
      cases em : b G (lk M n) with
      | next G' M' =>
        simp only [em] at p
        by_cases hf : M'.fz = n :: M.fz
        · rw [if_pos hf] at p
          intro σ' j H' e2 s2 rr
          obtain ⟨g1, g2, g3, g4⟩ := L.unlock od j M' H' e2 s2 hf
          exact ⟨g1, p σ' j _ g2 g3 (rr.carry g4)⟩
        · rw [if_neg hf] at p
          exact False.elim p
      | brk G' M' =>
        simp only [em] at p
        by_cases hf : M'.fz = n :: M.fz
        · rw [if_pos hf] at p
          intro σ' j H' e2 s2 rr
          obtain ⟨g1, g2, g3, g4⟩ := L.unlock od j M' H' e2 s2 hf
          exact ⟨g1, p σ' j _ g2 g3 (rr.carry g4)⟩
        · rw [if_neg hf] at p
          exact False.elim p
      | cnt G' M' =>
        simp only [em] at p
        by_cases hf : M'.fz = n :: M.fz
        · rw [if_pos hf] at p
          intro σ' j H' e2 s2 rr
          obtain ⟨g1, g2, g3, g4⟩ := L.unlock od j M' H' e2 s2 hf
          exact ⟨g1, p σ' j _ g2 g3 (rr.carry g4)⟩
        · rw [if_neg hf] at p
          exact False.elim p
      | ret x M' =>
        simp only [em] at p
        by_cases hf : M'.fz = n :: M.fz
        · rw [if_pos hf] at p
          intro v j H' e2 s2 rv
          obtain ⟨g1, g2, g3, g4⟩ := L.unlock od j M' H' e2 s2 hf
          exact ⟨g1, p v j _ g2 g3 (VR.carry g4 _ _ rv)⟩
        · rw [if_neg hf] at p
          exact False.elim p
      | exc c fs G' M' => simp only [em] at p; exact False.elim p
      | stuck => simp only [em] at p; exact False.elim p
end

/-! ### a locked dict's keys -/
def keysOf (M : AH) : AV → Option (List AV)
  | .ref n => if n ∈ M.fz then (match M.objs[n]? with
    | some (.dK kvs) => some (keysK kvs)
    | some (.dT kvs) => some (keysT kvs)
    | _ => none) else none
  | _ => none
def mKeys (m : EM) : IM := fun G M => (m G M).bind fun a M1 => match keysOf M1 a with
  | some xs => .ok ⟨xs, none⟩ M1
  | none => .stuck
theorem VRt.at {K : PySem.W.Frag} {i : Ix} {H : Hp} : ∀ {us : List (List Key × V)} {as : List (List Key × AV)} {k : Nat} {p : List Key × AV}, VRt K i H us as → as[k]? = some p → ∃ v, us[k]? = some (p.1, v)
  | _, _, 0, _, .cons r _, e => by cases e; exact ⟨_, rfl⟩
  | _, _, k + 1, _, .cons _ t, e => VRt.at (k := k) t e
theorem VRk.at {K : PySem.W.Frag} {i : Ix} {H : Hp} : ∀ {us : List (Key × V)} {as : List (Key × AV)} {k : Nat} {p : Key × AV}, VRk K i H us as → as[k]? = some p → ∃ v, us[k]? = some (p.1, v)
  | _, _, 0, _, .cons r _, e => by cases e; exact ⟨_, rfl⟩
  | _, _, k + 1, _, .cons _ t, e => VRk.at (k := k) t e
theorem VRt.len' {K : PySem.W.Frag} {i : Ix} {H : Hp} : ∀ {us : List (List Key × V)} {as : List (List Key × AV)}, VRt K i H us as → us.length = as.length
  | _, _, .nil => rfl
  | _, _, .cons _ t => by simp [VRt.len' t]
theorem VRk.len' {K : PySem.W.Frag} {i : Ix} {H : Hp} : ∀ {us : List (Key × V)} {as : List (Key × AV)}, VRk K i H us as → us.length = as.length
  | _, _, .nil => rfl
  | _, _, .cons _ t => by simp [VRk.len' t]
theorem it_keysT {C : Cm} {i : Ix} {H : Hp} {d : Addr} {o : Obj} {us : List (List Key × V)} {as : List (List Key × AV)} (h : H d = some (.frz o (.dT us))) (r : VRt C.K i H us as) : ItOk C i H (Itkt d o us) ⟨keysT as, none⟩ where
  go := fun k j M H' e _ _ hk => by
    have hk : k < as.length := by simpa [keysT] using hk
    exact ⟨e.fro d o _ h, by rw [r.len']; exact hk⟩
  yld := fun k j M H' x H2 a' e s _ ha y => by
    obtain ⟨e1, key, v, q, hk, ex, hq⟩ := y
    subst e1
    subst ex
    have ha : (keysT as)[k]? = some a' := ha
    unfold keysT at ha
    rw [List.getElem?_map] at ha
    cases ea : as[k]? with
    | none => rw [ea] at ha; cases ha
    | some p =>
      rw [ea] at ha
      have e2 : a' = .tup (p.1.map keyAV) := (Option.some.inj ha).symm
      obtain ⟨v', h1⟩ := r.at ea
      rw [hk] at h1
      have e3 : key = p.1 := congrArg Prod.fst (Option.some.inj h1)
      rw [e2, ← e3]
      exact ⟨Ext.refl, s, vr_keyT s hq⟩
  stop := fun k j M H' e _ _ hk => by
    have hk : as.length ≤ k := by simpa [keysT] using hk
    exact ⟨e.fro d o _ h, by rw [r.len']; exact hk⟩
theorem it_keysK {C : Cm} {i : Ix} {H : Hp} {d : Addr} {o : Obj} {us : List (Key × V)} {as : List (Key × AV)} (h : H d = some (.frz o (.dK us))) (r : VRk C.K i H us as) : ItOk C i H (Itk d o us) ⟨keysK as, none⟩ where
  go := fun k j M H' e _ _ hk => by
    have hk : k < as.length := by simpa [keysK] using hk
    exact ⟨e.fro d o _ h, by rw [r.len']; exact hk⟩
  yld := fun k j M H' x H2 a' e s _ ha y => by
    obtain ⟨e1, key, v, hk, ex⟩ := y
    subst e1
    subst ex
    have ha : (keysK as)[k]? = some a' := ha
    unfold keysK at ha
    rw [List.getElem?_map] at ha
    cases ea : as[k]? with
    | none => rw [ea] at ha; cases ha
    | some p =>
      rw [ea] at ha
      have e2 : a' = keyAV p.1 := (Option.some.inj ha).symm
      obtain ⟨v', h1⟩ := r.at ea
      rw [hk] at h1
      have e3 : key = p.1 := congrArg Prod.fst (Option.some.inj h1)
      rw [e2, ← e3]
      exact ⟨Ext.refl, s, vrk_key key⟩
  stop := fun k j M H' e _ _ hk => by
    have hk : as.length ≤ k := by simpa [keysK] using hk
    exact ⟨e.fro d o _ h, by rw [r.len']; exact hk⟩
theorem i_keys {X : Cx} {W : WX} {tg e : Expr} {m : EM} (he : PE X e (tE (cm X) W m)) : PI X tg e (tI (cm X) W (mKeys m)) :=
  PI.imp (pi_keys he) fun σ H R hw => by
    have h1 := tI.bind (R := RV (cm X)) (m := m) (f := fun G a M1 => match keysOf M1 a with | some xs => Res.ok ⟨xs, none⟩ M1 | none => .stuck) hw
    refine tM.imp h1 fun v H1 ⟨j, G, a, M, s, r, rr, q⟩ => ?_
    cases rr with
    | @ref p n hn =>
      by_cases hf : n ∈ M.fz
      · obtain ⟨p', hp, o, u, hu⟩ := s.fzl n hf
        rw [hn] at hp
        cases hp
        obtain ⟨c, hc, oc⟩ := s.get hn
        simp only [keysOf, hf, if_true, hc] at q
        cases oc with
        | lst h1 _ => rw [hu] at h1; cases h1
        | @dK us as h1 h2 =>
          rcases h1 with h1 | ⟨_, o', h1⟩
          · rw [hu] at h1; cases h1
          · simp only at q
            exact ⟨p, o', rfl, .inl ⟨us, h1, q _ j H1 Ext.refl s (it_keysK h1 h2)⟩⟩
        | @dT us as h1 h2 =>
          rcases h1 with h1 | ⟨_, o', h1⟩
          · rw [hu] at h1; cases h1
          · simp only at q
            exact ⟨p, o', rfl, .inr ⟨us, h1, q _ j H1 Ext.refl s (it_keysT h1 h2)⟩⟩
      · simp only [keysOf, hf, if_false] at q
        exact q.elim
    | _ => exact q.elim

/-! ### xs * n -/
def repA (xs : List AV) (k : Int) : List AV := (List.replicate k.toNat xs).flatten
def gRep : AV → AV → AH → Res AV := fun a b M => match lstX M a, b with
  | some xs, .int k => if -(2 ^ 63) ≤ k ∧ k < 2 ^ 63 ∧ xs.length * k.toNat ≤ 16777216 then .ok (.lst (repA xs k)) M else .stuck
  | _, _ => .stuck
theorem vrs_rep {K : PySem.W.Frag} {i : Ix} {H : Hp} {us : List V} {as : List AV} (h : VRs K i H us as) : ∀ n : Nat, VRs K i H (List.replicate n us).flatten (List.replicate n as).flatten
  | 0 => .nil
  | n + 1 => by
    rw [List.replicate_succ, List.replicate_succ, List.flatten_cons, List.flatten_cons]
    exact VRs.app (vrs_rep h n) h
theorem o_rep {C : Cm} : Op2 C rRep gRep := fun i M H x y a b Q W s ra rb p => by
  unfold gRep at p
  cases e : lstX M a with
  | none => simp only [e] at p; exact False.elim p
  | some xs =>
    cases b with
    | int k =>
      simp only [e] at p
      cases rb
      by_cases hk : -(2 ^ 63) ≤ k ∧ k < 2 ^ 63 ∧ xs.length * k.toNat ≤ 16777216
      · rw [if_pos hk] at p
        obtain ⟨q, us, rfl, h1, h2⟩ := lstX_at s ra e
        have hl : sizeLine = 16777216 := sizeLine_eq
        refine ⟨q, k, us, rfl, rfl, h1, hk.1, hk.2.1, by rw [h2.len, hl]; exact hk.2.2, fun l hn => ?_⟩
        exact p _ i _ (Ext.fresh hn) (s.fresh hn) (.lst upd_same (s.notin hn) ((vrs_rep h2 k.toNat).mono (Ext.fresh hn)))
      · rw [if_neg hk] at p
        exact False.elim p
    | _ => simp only [e] at p; exact False.elim p
end Mx

/-! Mx18: l.remove(x), l.index(x), t.index(x), tuple(l) whose object is known, enumerate(t), l[a:b] = [..]. -/
namespace Mx
open PySem hiding Env
open L2 PySem.Spec PyProof.Rows

/-! ### the place of an equal one -/
def dPlace (ds : List PyData) (d : PyData) : Option Nat := ds.findIdx? fun z => PyData.eqv z d
def aPlace (xs : List AV) (y : AV) : Option Nat := xs.findIdx? fun z => aeq z y
theorem place_toDs (xs : List AV) (y : AV) : dPlace (toDs xs) (toD y) = aPlace xs y := by
  unfold dPlace aPlace
  rw [toDs_map, List.findIdx?_map]
  rfl
theorem place_hit {h : Heap} {us : List Value} {ds : List PyData} {as : List Addr} {d : PyData} {j : Nat} (r : ReadsAll h us ds as) (p : ds.all (pdl 60) = true) (hj : dPlace ds d = some j) :
    ∃ q : j < us.toArray.size, PyData.eqv (readAt h us.toArray[j]) d = true ∧ ∀ m (hm : m < us.toArray.size), m < j → PyData.eqv (readAt h us.toArray[m]) d = false := by
  have e := (readsAll_at r p).1
  obtain ⟨h1, h2, h3⟩ := List.findIdx?_eq_some_iff_getElem.mp hj
  have hl : us.length = ds.length := by rw [← e, List.length_map]
  have at_ : ∀ m (hm : m < us.toArray.size) (hm2 : m < ds.length), readAt h us.toArray[m] = ds[m] := fun m hm hm2 => by
    have q : (us.map (readAt h))[m]? = ds[m]? := by rw [e]
    rw [List.getElem?_map, List.getElem?_eq_getElem (show m < us.length by omega), List.getElem?_eq_getElem hm2] at q
    simpa using q
  refine ⟨by rw [List.size_toArray]; omega, ?_, fun m hm hmj => ?_⟩
  · rw [at_ j _ h1]; exact h2
  · rw [at_ m hm (by omega)]
    simpa using h3 m hmj
def rRemP (K : PySem.W.Frag) : V → List V → Hp → VK → Prop := fun x xs H Q => ∃ (l : Addr) (ys : List V) (y : V) (d : PyData) (ds : List PyData) (j : Nat), x = .ref l ∧ xs = [y] ∧ H l = some (.lst ys) ∧ DpAll K H ys ds ∧ Dp K H y d ∧ pdl 60 d = true ∧ ds.all (pdl 60) = true ∧
  dPlace ds d = some j ∧ Q .non (upd H l (.lst (ys.eraseIdx j)))
theorem mt_remP {X : Cx} (hu : X.A.units + 64 < cLine) : MtR X "list.remove" (rRemP X.K) := by
  intro pins s σ H x xs v us Q I rx rxs h
  obtain ⟨l, ys, y, d, ds, j, rfl, rfl, hH, ha, hd, pd, pe, hj, q⟩ := h
  cases rx
  obtain ⟨uy, rfl, ry⟩ := rxs.one
  obtain ⟨as, r1⟩ := Dp.reads I d y uy hd ry
  obtain ⟨z, its, n, r, hl, e⟩ := I.lstM hH
  obtain ⟨bs, r2⟩ := Dp.readsAll I ds _ its ha r
  obtain ⟨g1, g2, g3⟩ := place_hit r2 pe hj
  have room : X.A.in1.units + 60 < cLine := by
    show X.A.units + 1 + 60 < cLine
    omega
  refine call_meets PySem.F.slot_list_remove ⟨_, e, rfl⟩ PySem.F.entry_list_remove (PySem.F.args_list_remove_2 _ _) (SeqAt.list_removeAt l its.toArray n _ _ uy (fun u => PyData.eqv (readAt s.heap u) d) j g1 g2 g3 (by rw [List.size_toArray, ← hl]; exact z)) ⟨e, items_eq r2 pe r1 pd room, ?_⟩
  refine ⟨.non, _, I.lset (its' := its.eraseIdx j) hH e (by show its.toArray.eraseIdxIfInBounds j = _; rw [List.eraseIdxIfInBounds_toArray]) (r.eraseIdx j) ?_, rfl, q⟩
  have := len_erase ys j
  omega
def rIdxP (K : PySem.W.Frag) : V → List V → Hp → VK → Prop := fun x xs H Q => ∃ (y : V) (d : PyData) (ds : List PyData) (j : Nat), xs = [y] ∧ SeqD K H x ds ∧ Dp K H y d ∧ pdl 60 d = true ∧ ds.all (pdl 60) = true ∧ dPlace ds d = some j ∧ Q (.int (j : Nat)) H
def rIdxL (K : PySem.W.Frag) : V → List V → Hp → VK → Prop := fun x xs H Q => (∃ (a : Addr) (ys : List V), x = .ref a ∧ SqL K H a ys) ∧ rIdxP K x xs H Q
def rIdxT (K : PySem.W.Frag) : V → List V → Hp → VK → Prop := fun x xs H Q => (∃ (a : Addr) (ys : List V), x = .ref a ∧ SqT K H a ys) ∧ rIdxP K x xs H Q
theorem Inv.apart {X : Cx} {pins : List (Addr × Obj)} {σ : L2.St} {H : Hp} {s : Shared} {a : Addr} {xs ys : List V} (I : Inv X pins σ H s) (h1 : SqL X.K H a xs) (h2 : SqT X.K H a ys) : False := by
  obtain ⟨its, _, p1, _⟩ := I.list h1
  obtain ⟨its2, _, p2, _⟩ := I.tuple h2
  obtain ⟨o, e1, c1, _⟩ := p1.isList
  obtain ⟨o2, e2, c2, _⟩ := p2
  rw [e1] at e2
  cases e2
  rw [c1] at c2
  exact absurd c2 (by decide)
theorem mt_idxL {X : Cx} (hu : X.A.units + 64 < cLine) : MtR X "list.index" (rIdxL X.K) := by
  intro pins s σ H x xs v us Q I rx rxs h
  obtain ⟨⟨a0, ys0, e0, h0⟩, y, d, ds, j, rfl, hs, hd, pd, pe, hj, q⟩ := h
  obtain ⟨uy, rfl, ry⟩ := rxs.one
  obtain ⟨as, r1⟩ := Dp.reads I d y uy hd ry
  have room : X.A.in1.units + 60 < cLine := by
    show X.A.units + 1 + 60 < cLine
    omega
  cases hs with
  | tup hq ha =>
    cases e0
    exact (Inv.apart I h0 hq).elim
  | @lst a ys _ hq ha =>
    cases rx
    obtain ⟨its, rv, ⟨⟨cls, dd, data, sls⟩, n, ho, hc, hdn, hdt⟩, hlen⟩ := I.list hq
    simp only at hc hdt
    subst hc hdt
    obtain ⟨bs, r2⟩ := Dp.readsAll I ds _ its ha rv
    obtain ⟨g1, g2, g3⟩ := place_hit r2 pe hj
    have hvl := rv.length
    have hsl := sizeLine_eq
    have hj2 : j < its.length := by simpa using g1
    exact call_meets PySem.F.slot_list_index ⟨_, ho, rfl⟩ PySem.F.entry_list_index (PySem.F.args_list_index_2 _ _) (SeqAt.list_indexAt a its.toArray n dd sls uy (fun u => PyData.eqv (readAt s.heap u) d) j g1 (by omega) g2 g3) ⟨ho, items_eq r2 pe r1 pd room, .int (j : Nat), H, I.tok _, ⟨_, rfl⟩, q⟩
theorem mt_idxT {X : Cx} (hu : X.A.units + 64 < cLine) : MtR X "tuple.index" (rIdxT X.K) := by
  intro pins s σ H x xs v us Q I rx rxs h
  obtain ⟨⟨a0, ys0, e0, h0⟩, y, d, ds, j, rfl, hs, hd, pd, pe, hj, q⟩ := h
  obtain ⟨uy, rfl, ry⟩ := rxs.one
  obtain ⟨as, r1⟩ := Dp.reads I d y uy hd ry
  have room : X.A.in1.units + 60 < cLine := by
    show X.A.units + 1 + 60 < cLine
    omega
  cases hs with
  | lst hq ha =>
    cases e0
    exact (Inv.apart I hq h0).elim
  | @tup a ys _ hq ha =>
    cases rx
    obtain ⟨its, rv, ⟨⟨cls, dd, data, sls⟩, ho, hc, n, hdt⟩, hlen⟩ := I.tuple hq
    simp only at hc hdt
    subst hc hdt
    obtain ⟨bs, r2⟩ := Dp.readsAll I ds _ its ha rv
    obtain ⟨g1, g2, g3⟩ := place_hit r2 pe hj
    exact call_meets PySem.F.slot_tuple_index ⟨_, ho, rfl⟩ PySem.F.entry_tuple_index (PySem.F.args_tuple_index_2 _ _) (TI.tuple_indexAt a its.toArray n dd sls uy (fun u => PyData.eqv (readAt s.heap u) d) j g1 g2 g3) ⟨ho, items_eq r2 pe r1 pd room, .int (j : Nat), H, I.tok _, ⟨_, rfl⟩, q⟩
def gRemove : AV → List AV → AH → Res AV
  | .ref n, [y], M => match M.objs[n]? with
    | some (.lst xs) => if (plain 60 (top M y) && xs.all (plain 60)) = true then (match aPlace xs (top M y) with
      | some j => .ok .non (setL M n (xs.eraseIdx j))
      | none => .stuck) else .stuck
    | _ => .stuck
  | _, _, _ => .stuck
def gIndex : AV → List AV → AH → Res AV
  | a, [y], M => match itemsOf M a with
    | some xs => if (plain 60 (top M y) && xs.all (plain 60)) = true then (match aPlace xs (top M y) with
      | some j => .ok (.int (j : Nat)) M
      | none => .stuck) else .stuck
    | none => .stuck
  | _, _, _ => .stuck
theorem all_toDs {xs : List AV} (h : xs.all (plain 60) = true) : (toDs xs).all (pdl 60) = true := by
  rw [toDs_map, List.all_map, List.all_eq_true]
  exact fun z hz => pdl_of _ _ (List.all_eq_true.mp h z hz)
theorem o_remove {C : Cm} : OpM C (rRemP C.K) gRemove := fun i M H x vs a as Q W s ra rs p => by
  cases ra with
  | @ref q n hn =>
    match as, rs, p with
    | [], _, p => exact False.elim p
    | _ :: _ :: _, _, p => exact False.elim p
    | [b], rs, p =>
      obtain ⟨y, rfl, ry⟩ := rs.one
      obtain ⟨c, hc, o⟩ := s.get hn
      simp only [gRemove, hc] at p
      cases o with
      | @lst us xs h1 h2 =>
        obtain ⟨hp, p⟩ := post.need p
        rw [Bool.and_eq_true] at hp
        cases ej : aPlace xs (top M b) with
        | none => simp only [ej] at p; exact False.elim p
        | some j =>
          simp only [ej] at p
          obtain ⟨e, s'⟩ := setL_at s hn (h2.eraseIdx j) h1
          exact ⟨q, us, y, _, _, j, rfl, rfl, h1, dps_of _ 60 _ hp.2 h2, dp_top s ry hp.1, pdl_of _ _ hp.1, all_toDs hp.2, by rw [place_toDs]; exact ej, p _ i _ e s' .non⟩
      | dK _ _ => exact False.elim p
      | dT _ _ => exact False.elim p
  | _ => exact False.elim p
theorem o_index {C : Cm} {i : Ix} {M : AH} {H : Hp} {x : V} {vs : List V} {a : AV} {as : List AV} {Q : VK} {W : XK} (s : Sim C.K i M H) (ra : VR C.K i H x a) (rs : VRs C.K i H vs as) (p : post C (RV C) i H (gIndex a as M) Q W) : (∃ xs, itemsOf M a = some xs) ∧ rIdxP C.K x vs H Q := by
  match as, rs, p with
  | [], _, p => cases a <;> exact False.elim p
  | _ :: _ :: _, _, p => cases a <;> exact False.elim p
  | [b], rs, p =>
    obtain ⟨y, rfl, ry⟩ := rs.one
    have p : post C (RV C) i H (match itemsOf M a with | some xs => if (plain 60 (top M b) && xs.all (plain 60)) = true then (match aPlace xs (top M b) with | some j => .ok (.int (j : Nat)) M | none => .stuck) else .stuck | none => .stuck) Q W := by
      cases a <;> exact p
    cases e : itemsOf M a with
    | none => rw [e] at p; exact False.elim p
    | some xs =>
      rw [e] at p
      refine ⟨⟨xs, rfl⟩, ?_⟩
      obtain ⟨hp, p⟩ := post.need p
      rw [Bool.and_eq_true] at hp
      cases ej : aPlace xs (top M b) with
      | none => simp only [ej] at p; exact False.elim p
      | some j =>
        simp only [ej] at p
        exact ⟨y, _, _, j, rfl, seqD_at s ra e hp.2, dp_top s ry hp.1, pdl_of _ _ hp.1, all_toDs hp.2, by rw [place_toDs]; exact ej, p.now s (.int _)⟩
def gIndexL : AV → List AV → AH → Res AV := fun a as M => if tyL M a = true then gIndex a as M else .stuck
theorem o_indexL {C : Cm} : OpM C (rIdxL C.K) gIndexL := fun i M H x vs a as Q W s ra rs p => by
  obtain ⟨ht, p⟩ := post.need p
  obtain ⟨_, h⟩ := o_index s ra rs p
  refine ⟨?_, h⟩
  unfold tyL at ht
  cases e : lstR M a with
  | none => rw [e] at ht; cases ht
  | some xs =>
    obtain ⟨q, us, rfl, h1, h2⟩ := lstR_at s ra e
    exact ⟨q, us, rfl, h1⟩
/-- a tuple whose object is known -/
def tyT : AH → AV → Bool
  | _, .tuc _ => true
  | _, _ => false
def gIndexT : AV → List AV → AH → Res AV := fun a as M => if tyT M a = true then gIndex a as M else .stuck
theorem o_indexT {C : Cm} : OpM C (rIdxT C.K) gIndexT := fun i M H x vs a as Q W s ra rs p => by
  obtain ⟨ht, p⟩ := post.need p
  obtain ⟨_, h⟩ := o_index s ra rs p
  refine ⟨?_, h⟩
  cases ra with
  | tuc h1 h2 => exact ⟨_, _, rfl, h1.sq⟩
  | _ => cases ht
/-- such a tuple, by values -/
def KnV (K : PySem.W.Frag) (x : V) (H : Hp) : Prop := ∃ (a : Addr) (xs : List V), x = .ref a ∧ ((∃ o : Obj, H a = some (.frz o (.tup xs)) ∧ o.dict = none) ∨ KT K a xs)
theorem KnV.is {X : Cx} {pins : List (Addr × Obj)} {σ : L2.St} {H : Hp} {s : Shared} {x : V} {v : Value} (I : Inv X pins σ H s) (r : RelV x v) (h : KnV X.K x H) : s.TypeIs v "tuple" ∧ ∀ a, v = .ref a → ∃ ob, s.heap.get? a = some ob ∧ ob.dict = none := by
  obtain ⟨a, xs, rfl, h⟩ := h
  cases r
  rcases h with ⟨o, h, hd⟩ | ⟨o, its, n, h1, h2, h3, h4, h5, hd⟩
  · obtain ⟨g1, _, its, _, o2, g2, g3, _⟩ := I.hok a _ h
    rw [g1] at g2
    cases g2
    exact ⟨⟨o, g1, g3⟩, fun b e => by cases e; exact ⟨o, g1, hd⟩⟩
  · exact ⟨⟨o, I.kIn a o h1, h2⟩, fun b e => by cases e; exact ⟨o, I.kIn a o h1, hd⟩⟩
section
variable {X : Cx} {W : WX} {o e : Expr} {es : List Expr} {m : EM} {n : AM} {name : Str} {apos cpos : Pos} {id : String} {r : V → List V → Hp → VK → Prop} {g : AV → List AV → AH → Res AV} {to : TE} {t : TA}
theorem pe_methT (slot : Slot "tuple" name id) (hty : typeOf (.builtin id) = pure (.type "method_descriptor")) (hm : MtR X id r) (ho : PE X o to) (ha : PA X (e :: es) t) (hbase : attributeBase o name X.env (eval o X.env) = eval o X.env := by rfl)
    (hfew : ((backTo cpos (starEach (e :: es) X.env)).all (fun x => !x.1) && (backToKw cpos (keywordEach [] X.env)).all (fun x => x.1.isSome) && decide ((e :: es).length + ([] : List Keyword).length + (if ([] : List Keyword).isEmpty then 0 else 1) < 30)) = true := by rfl)
    (hline : (apos.endLine == cpos.line) = true := by rfl) (hs : starEach (e :: es) X.env = (false, eval e X.env) :: starEach es X.env := by rfl) (hpl : (backTo cpos (starEach es X.env)).any (·.1) = false := by rfl) :
    PE X (.Call (.Attribute o name apos) (e :: es) [] cpos) (fun σ H Q => to σ H fun x H1 => KnV X.K x H1 ∧ t σ H1 fun vs H2 => r x vs H2 Q) := by
  refine ⟨fun pins s σ H Q I h => wpAny_Call_method_late hbase hfew hline rfl (thn (ho.run pins s σ H _ I h) fun v s1 ⟨x, H1, I1, r1, ty, q1⟩ => ?_)⟩
  obtain ⟨h1, h2⟩ := ty.is I1 r1
  refine ⟨"tuple", id, PySem.F.plainAttrs_tuple, slot, hty, h1, h2, ?_⟩
  have hA := ha.run cpos pins s1 σ H1 _ I1 q1
  rw [hs] at hA ⊢
  exact Calls.callWith_builtin (by show (false || (backTo cpos (starEach es X.env)).any (·.1)) = false; rw [hpl] <;> rfl) (Calls.evalArgs_plain (thn hA fun us s2 ⟨vs, H2, I2, r2, q2⟩ => hm pins s2 σ H2 x vs v us Q I2 r1 r2 q2))
theorem e_methT (slot : Slot "tuple" name id) (hty : typeOf (.builtin id) = pure (.type "method_descriptor")) (hm : MtR X id r) (hg : OpM (cm X) r g) (ho : PE X o (tE (cm X) W m)) (ha : PA X (e :: es) (tA (cm X) W n)) (hbase : attributeBase o name X.env (eval o X.env) = eval o X.env := by rfl)
    (hfew : ((backTo cpos (starEach (e :: es) X.env)).all (fun x => !x.1) && (backToKw cpos (keywordEach [] X.env)).all (fun x => x.1.isSome) && decide ((e :: es).length + ([] : List Keyword).length + (if ([] : List Keyword).isEmpty then 0 else 1) < 30)) = true := by rfl)
    (hline : (apos.endLine == cpos.line) = true := by rfl) (hs : starEach (e :: es) X.env = (false, eval e X.env) :: starEach es X.env := by rfl) (hpl : (backTo cpos (starEach es X.env)).any (·.1) = false := by rfl) :
    PE X (.Call (.Attribute o name apos) (e :: es) [] cpos) (tE (cm X) W (mMeth tyT g m n)) :=
  PE.imp (pe_methT slot hty hm ho ha hbase hfew hline hs hpl) fun σ H Q h => by
    have h1 := tM.bind (R := RV (cm X)) (m := m) (f := fun G a M1 => if tyT M1 a = true then (n G M1).bind fun as M2 => g a as M2 else .stuck) h
    refine tM.imp h1 fun x H1 ⟨j, G, a, M, s, er, rr, p⟩ => ?_
    obtain ⟨hc, p⟩ := post.need p
    refine ⟨?_, j, G, M, s, er, (post.bind (R := RVs (cm X)) p).imp (fun xs H2 ⟨k, as, M2, e2, s2, rs, p2⟩ => hg k M2 H2 x xs a as Q _ s2 (rr.mono e2) rs p2) fun _ _ _ z => z⟩
    cases rr with
    | tuc h1 h2 =>
      rcases h1 with ⟨h1, _⟩ | h1
      · exact ⟨_, _, rfl, .inl h1⟩
      · exact ⟨_, _, rfl, .inr h1⟩
    | _ => cases hc
end

/-! ### tuple(l), whose object is known -/
def rTucOf (K : PySem.W.Frag) : List V → Hp → VK → Prop := fun xs H Q => ∃ p ys, xs = [.ref p] ∧ SqL K H p ys ∧ ∀ l o, o.dict = none → H l = none → Q (.ref l) (upd H l (.frz o (.tup ys)))
theorem x_tuc {X : Cx} : CallR X (.type "tuple") (rTucOf X.K) := by
  intro pins s σ H xs us Q I r h
  obtain ⟨p, ys, rfl, hq, q⟩ := h
  obtain rfl := Vals.ref1 r
  obtain ⟨its, r', pl, hz⟩ := I.list hq
  have hlen := r'.length
  refine call_tuple_list pl.isList (fun h' kp => ?_) (by simp only [List.size_toArray] <;> omega)
  have I1 : Inv X pins σ H { s with heap := h' } := I.kept (t' := s.toks) kp
  refine ⟨.ref h'.objs.size, _, I1.laid (t' := s.toks) (o := .frz { cls := .type "tuple", data := .seq its.toArray } (.tup ys)) (fun b o e => Heap.get?_push_of_some _ e) (Nat.le_refl _) ⟨Heap.get?_push_size _ rfl, hz, its, r', IsTup.new _ _⟩, rfl, q _ _ rfl (I1.hok.fresh (Nat.le_refl _))⟩
def gTucOf : List AV → AH → Res AV
  | [a], M => match lstR M a with
    | some xs => .ok (.tuc xs) M
    | none => .stuck
  | _, _ => .stuck
theorem o_tuc {C : Cm} : OpC C (rTucOf C.K) gTucOf := fun i M H xs as Q W s r p => by
  match as, r, p with
  | [], _, p => exact False.elim p
  | _ :: _ :: _, _, p => exact False.elim p
  | [a], r, p =>
    obtain ⟨x, rfl, rx⟩ := r.one
    simp only [gTucOf] at p
    cases e : lstR M a with
    | none => rw [e] at p; exact False.elim p
    | some ys =>
      rw [e] at p
      obtain ⟨q, us, rfl, h1, h2⟩ := lstR_at s rx e
      exact ⟨q, us, rfl, h1, fun l o ho hl => p _ i _ (Ext.fresh hl) (s.fresh hl) (.tuc (.inl ⟨⟨o, upd_same, ho⟩, s.notin hl⟩) (h2.mono (Ext.fresh hl)))⟩
end Mx

/-! Mx19: enumerate(t) of a tuple, l[a:b] = [..]. -/
namespace Mx
open PySem hiding Env
open L2 PySem.Spec PyProof.Rows

/-! ### enumerate(t) -/
/-- the tuple at a, each item in a new pair behind its place -/
def IteT (K : PySem.W.Frag) (a : Addr) : It where
  go := fun i H => ∃ (ys : List V) (y : V), SqT K H a ys ∧ ys[i]? = some y
  yld := fun i H v H' => ∃ (T : Addr) (y : V), v = .ref T ∧ H T = none ∧ H' = upd H T (.tup [.int (i : Nat), y]) ∧ ∀ ys, SqT K H a ys → ys[i]? = some y
  stop := fun i H => ∃ ys : List V, SqT K H a ys ∧ ys.length ≤ i
theorem draws_tup {P : Program} {w : World} {A : Around} {it l : Addr} {vs : Array Value} (hh : A.handled = none) (hne : l ≠ it) : Draws P w A it [it, l] vs.size (fun i x => vs[i]? = some x) (fun i h => h.IsTupleIter it l i ∧ h.IsTuple l vs) where
  live := fun i h st => let ⟨⟨o, e, _⟩, _⟩ := st; ⟨o, e⟩
  frame := fun i h h' st k => ⟨st.1.at fun o e => k it (by simp) o e, let ⟨o, e, r⟩ := st.2; ⟨o, k l (by simp) o e, r⟩⟩
  item := fun i s Q E hi st q => RZ.nextOf_tuple_item st.1 st.2 (Array.getElem?_eq_getElem hi) fun h' h1 sb => q _ h' s.toks (Array.getElem?_eq_getElem hi) ⟨h1, let ⟨o, e, r⟩ := st.2; ⟨o, (sb.2 l hne).trans e, r⟩⟩ sb
  done := fun s Q E st q => RZ.nextOf_tuple_end hh st.1 st.2 (Array.getElem?_eq_none (Nat.le_refl _)) q
theorem turn_enumT {P : Program} {w : World} {K : PySem.W.Frag} {elts : List Expr} {kk : Nat} {tpos : Pos} (a e it : Addr) :
    Turn P w K (.Tuple elts kk tpos) (IteT K a) [e, it] e (fun i h => (∃ old, IsEnum h e it ((i : Nat) : Int) old) ∧ h.IsTupleIter it a i ∧ e ≠ it) where
  mem := List.mem_cons_self
  obj := fun i h st b hb => by
    obtain ⟨⟨old, he⟩, ⟨o, ho, _, hd⟩, _⟩ := st
    rcases List.mem_cons.mp hb with z | z
    · rw [z]; exact ⟨_, he, fun v q => Data.noConfusion q⟩
    · rw [List.mem_singleton.mp z]
      exact ⟨o, ho, fun v q => Data.noConfusion (hd.symm.trans q)⟩
  keep := fun i h h' st k => ⟨⟨_, k e (by simp) _ st.1.choose_spec⟩, st.2.1.at fun o q => k it (by simp) o q, st.2.2⟩
  item := by
    intro X hP hw hK hc i pins s σ H E I hf st hg
    subst hP hw hK
    obtain ⟨⟨old, he⟩, hit, hne⟩ := st
    obtain ⟨ys, y, hq, hy⟩ := hg
    obtain ⟨its, rv, p, _⟩ := I.tuple hq
    obtain ⟨u, hu, ru⟩ := rv.get hy
    have l1 : e < s.heap.objs.size := Heap.lt_size he
    have l2 : it < s.heap.objs.size := by obtain ⟨_, q, _⟩ := hit; exact Heap.lt_size q
    have nai : a ≠ it := fun z => by
      obtain ⟨o, e1, c1, _⟩ := hit
      obtain ⟨o2, e2, c2, _⟩ := p
      rw [z, e1] at e2
      cases e2
      rw [c1] at c2
      exact absurd c2 (by decide)
    have nae : e ≠ a := fun z => by
      obtain ⟨o2, e2, c2, _⟩ := p
      rw [← z, he] at e2
      cases e2
      exact absurd (show Value.type "enumerate" = Value.type "tuple" from c2) (by decide)
    have hlt : i < its.toArray.size := by
      have := (List.getElem?_eq_some_iff.mp hu).1
      simpa using this
    have D : Draws X.prog X.w X.A.in1 it [it, a] its.toArray.size (fun i x => its.toArray[i]? = some x) (fun i h => h.IsTupleIter it a i ∧ h.IsTuple a its.toArray) := draws_tup (show X.A.in1.handled = none from I.ok.hd hc) nai
    refine wpAny_pyNext_enum_itemD D he ⟨hit, p⟩ hlt hne (by simp [hne, nae]) fun x h' tk hP ho hs' hT hsz hk => ?_
    have ex : x = u := by
      have q : its.toArray[i]? = some u := by simpa using hu
      exact Option.some.inj (hP.symm.trans q)
    subst ex
    refine ⟨_, rfl, wpAny_letOwnedTupleGo_enum (s := { s with heap := h', toks := tk + 1 }) ho fun h2 he2 sb => ?_⟩
    have T2 : h2.get? s.heap.objs.size = some { cls := .type "tuple", data := .seq #[.int i tk, x] } := (sb.2 _ (Nat.ne_of_gt l1)).trans hT
    have new : ObjOk X.prog X.w (upd H s.heap.objs.size (.tup [.int (i : Nat), y])) h2 s.heap.objs.size (.tup [.int (i : Nat), y]) := ⟨by show 2 ≤ sizeLine; decide, [.int i tk, x], .cons ⟨_, rfl⟩ (.cons ru .nil), _, T2, rfl, _, rfl⟩
    have I1 : Inv X pins σ (upd H s.heap.objs.size (.tup [.int (i : Nat), y])) { s with heap := h2, toks := tk + 1 } :=
      I.turnedNew (ch := [e, it]) (fun b ob hb q => (sb.2 b (fun z => hb (by simp [z]))).trans (hk b ob (fun z => hb (by simp [z])) (fun z => hb (by simp [z])) q)) hf (Nat.le_refl _) new
    refine ⟨.ref s.heap.objs.size, _, I1, rfl, ⟨_, y, rfl, I.hok.fresh (Nat.le_refl _), rfl, fun zs hz => by rw [I.tuple_inj hz hq]; exact hy⟩, ⟨⟨x, ?_⟩, hs'.1.at fun o q => (sb.2 it (Ne.symm hne)).trans q, hne⟩, fun b hb => ?_⟩
    · have e1 : ((i + 1 : Nat) : Int) = (i : Int) + 1 := by omega
      exact e1 ▸ he2
    · have hb' : b ≠ s.heap.objs.size := by
        rcases List.mem_cons.mp hb with z | z
        · rw [z]; exact Nat.ne_of_lt l1
        · rw [List.mem_singleton.mp z]; exact Nat.ne_of_lt l2
      rw [upd_ne hb']
      exact (hf b hb).1
  done := by
    intro X hP hw hK hc i pins s σ H E I hf st hg
    subst hP hw hK
    obtain ⟨⟨old, he⟩, hit, hne⟩ := st
    obtain ⟨ys, hq, hx⟩ := hg
    obtain ⟨its, rv, p, _⟩ := I.tuple hq
    obtain ⟨f0, f1, f2, f3, f4, f5⟩ := hf it (by simp)
    have hl := rv.length
    have hT : s.TypeIs (.ref e) "enumerate" := ⟨_, he, rfl⟩
    unfold pyNext
    refine wpAny_bind (wpAny_attempt (wpAny_callSpecial?_slot (name := Str.ofString "__next__") hT PySem.F.slot_enumerate_next (wpAny_call_entry PySem.F.slot_enumerate_next hT PySem.F.entry_enumerate_next ?_ (PySem.F.args_enumerate_next_1 _))))
    show wpAny _ _ (field (.ref e) 2 >>= _) _ _ _
    refine wpAny_bind (wpAny_field he rfl (x := .ref it) rfl (wpAny_bind (RZ.nextOf_tuple_end (show X.A.in1.handled = none from I.ok.hd hc) hit p (by simp; omega) fun h' x eb hx' => ?_)))
    obtain ⟨o, ho, hc'⟩ := hx'
    refine wpAny_bind (wpAny_isInstance (T := "StopIteration") (b := true) ⟨o, ho, hc'⟩ isSubtype_stop (wpAny_pure ?_))
    exact ⟨rfl, I.turned (t' := s.toks) (fun b o hb q => eb b o hb q) f0 f1 f3 f4 f5⟩
  self := fun A i s Q E st h => wpAny_pyIter_enum st.1.choose_spec h
theorem meets_enumT (l : Addr) (vs : Array Value) (n : Nat) (dc : Option Addr) (sl : Array (Option Value)) :
    Meets (Builtin.«enumerate.__new__» ⟨[.type "enumerate", .ref l], []⟩) fun _ R s => s.heap.get? l = some { cls := .type "tuple", dict := dc, data := .seq vs n, slots := sl } ∧
      R (.ok (.ret (.ref (s.heap.push { cls := .type "tuple_iterator", data := .fields #[.ref l, .int 0 0] }).objs.size)))
        { s with heap := (s.heap.push { cls := .type "tuple_iterator", data := .fields #[.ref l, .int 0 0] }).push { cls := .type "enumerate", data := .fields #[.none, .bool false, .ref s.heap.objs.size, rawInt 0, .none, .none] } } :=
  .of_wp fun prog w A R s hs => by
    obtain ⟨hp, gg, dr, tk, os⟩ := s
    obtain ⟨e0, hr⟩ := hs
    have hsub := sub_enumerate
    have hL : Heap.IsTuple (Shared.heap ⟨hp, gg, dr, tk, os⟩) l vs := ⟨_, e0, rfl, n, rfl⟩
    wp_walk using AutoSeq1.wpAny_loadPart' e0
    refine wpAny_stack_any fun st => wpAny_pure ?_
    split
    · rename_i c _ _ _ _ _
      cases (c == Value.type "enumerate")
      · wp_walk using AutoSeq1.wpAny_loadPart' e0, wpAny_pyIter_tuple hL
        exact ⟨_, rfl, hr⟩
      · wp_walk using AutoSeq1.wpAny_loadPart' e0, wpAny_pyIter_tuple hL
        exact ⟨_, rfl, hr⟩
    · wp_walk using AutoSeq1.wpAny_loadPart' e0, wpAny_pyIter_tuple hL
      exact ⟨_, rfl, hr⟩
theorem call_enumT {prog : Program} {w : World} {A : Around} {E : Value → Shared → Prop} {s : Shared} {l : Addr} {vs : Array Value} {Q : Value → Shared → Prop} (hL : s.heap.IsTuple l vs)
    (q : ∀ h', IsEnum h' (s.heap.objs.size + 1) s.heap.objs.size 0 .none → h'.IsTupleIter s.heap.objs.size l 0 → (∀ b o, s.heap.get? b = some o → h'.get? b = some o) → Q (.ref (s.heap.objs.size + 1)) { s with heap := h' }) :
    wpAny (model prog w) A (call (.type "enumerate") [.ref l]) Q E s := by
  obtain ⟨⟨cc, dct, dt, sl⟩, e0, hc, n, hd⟩ := hL
  have hc : cc = .type "tuple" := hc
  have hd : dt = .seq vs n := hd
  subst hc hd
  refine callType_new PySem.F.called_enumerate (by decide) (PySem.F.typeCall_enumerate_1 _) (PySem.F.newCall_enumerate_1 _) (fun obj => PySem.F.args_object_init_2 obj _) PySem.F.entry_enumerate_new (meets_enumT l vs n dct sl) ⟨e0, ?_⟩
  have hz : (s.heap.push { cls := .type "tuple_iterator", data := .fields #[.ref l, .int 0 0] }).objs.size = s.heap.objs.size + 1 := Heap.size_push ..
  show _ ∧ _
  have he := Heap.get?_push_size (s.heap.push { cls := .type "tuple_iterator", data := .fields #[.ref l, .int 0 0] }) (o := { cls := .type "enumerate", data := .fields #[.none, .bool false, .ref s.heap.objs.size, rawInt 0, .none, .none] }) rfl
  rw [hz] at he ⊢
  exact ⟨⟨_, he, rfl⟩, q _ he ⟨_, Heap.get?_push_of_some _ (Heap.get?_push_size _ rfl), rfl, rfl⟩ fun b o x => Heap.get?_push_of_some _ (Heap.get?_push_of_some _ x)⟩
theorem pi_enumT {X : Cx} {e : Expr} {ta : TA} {p pos tpos : Pos} {elts : List Expr} {kk : Nat} (hg : Gl X "enumerate") (hm : X.mg "enumerate" = none) (ha : PA X [e] ta) (hs : starEach [e] X.env = [(false, eval e X.env)] := by rfl) :
    PI X (.Tuple elts kk tpos) (.Call (.Name "enumerate" p) [e] [] pos) (fun σ H R => ta σ H fun vs H1 => ∃ a xs, vs = [.ref a] ∧ SqT X.K H1 a xs ∧ R (IteT X.K a) H1) := by
  refine ⟨fun pins s σ H R I h => Call_ (ld_blt I hg hm boot_enumerate (callWith_type1 (thn (ha.run pos pins s σ H _ I h) fun us s1 ⟨vs, H1, I1, r1, a, xs, ex, hq, q⟩ => ?_) hs rfl))⟩
  subst ex
  obtain rfl := Vals.ref1 r1
  obtain ⟨its, rv, p', _⟩ := I1.tuple hq
  refine call_enumT (show s1.heap.IsTuple a its.toArray from p') fun h' he hit hk => wpAny_pyIter_enum he ?_
  have I2 : Inv X pins σ H1 { s1 with heap := h' } := I1.kept (t' := s1.toks) hk
  refine ⟨s1.heap.objs.size + 1, [s1.heap.objs.size + 1, s1.heap.objs.size], _, _, H1, rfl, I2, turn_enumT a (s1.heap.objs.size + 1) s1.heap.objs.size, ⟨⟨.none, he⟩, hit, Nat.succ_ne_self _⟩, fun b hb => ?_, q⟩
  have hle : s1.heap.objs.size ≤ b := by
    rcases List.mem_cons.mp hb with z | z
    · rw [z]; exact Nat.le_add_right _ _
    · rw [List.mem_singleton.mp z]; exact Nat.le_refl _
  exact I1.fpOk hle (I1.hok.fresh hle)
theorem it_enumT {C : Cm} {i : Ix} {H : Hp} {a : Addr} {us : List V} {as : List AV} (q : ∀ j H', Ext i j H H' → SqT C.K H' a us) (r : VRs C.K i H us as) : ItOk C i H (IteT C.K a) ⟨enumA as, none⟩ where
  go := fun k j M H' e _ _ hk => by
    have hk : k < as.length := by simpa [enumA] using hk
    have h1 : k < us.length := by rw [r.len]; exact hk
    exact ⟨us, us[k], q j H' e, List.getElem?_eq_getElem h1⟩
  yld := fun k j M H' x H2 a' e s _ ha y => by
    obtain ⟨T, u, e0, hT, e1, g1⟩ := y
    subst e0
    subst e1
    have ha : (enumA as)[k]? = some a' := ha
    unfold enumA at ha
    rw [List.getElem?_mapIdx] at ha
    cases hx : as[k]? with
    | none => rw [hx] at ha; cases ha
    | some x' =>
      rw [hx] at ha
      have ea : a' = .tup [.int (k : Nat), x'] := (Option.some.inj ha).symm
      subst ea
      obtain ⟨u', h1, h2⟩ := r.at hx
      have z1 := g1 us (q j _ e)
      rw [h1] at z1
      cases z1
      exact pair_new hT s (.int _) (h2.mono e)
  stop := fun k j M H' e _ _ hk => by
    have hk : as.length ≤ k := by simpa [enumA] using hk
    exact ⟨us, q j H' e, by rw [r.len]; exact hk⟩
def gEnumT (as : List AV) (M : AH) : Res Src := match as with
  | [a] => match tvA a with
    | some xs => .ok ⟨enumA xs, none⟩ M
    | _ => .stuck
  | _ => .stuck
def mEnumT (n : AM) : IM := fun G M => (n G M).bind fun as M1 => gEnumT as M1
section
variable {X : Cx} {W : WX} {tg a b e : Expr} {n : AM} {m : EM} {p pos tpos : Pos} {elts : List Expr} {kk : Nat}
theorem i_enumT (hg : Gl X "enumerate") (hm : X.mg "enumerate" = none) (ha : PA X [a] (tA (cm X) W n)) (hs : starEach [a] X.env = [(false, eval a X.env)] := by rfl) :
    PI X (.Tuple elts kk tpos) (.Call (.Name "enumerate" p) [a] [] pos) (tI (cm X) W (mEnumT n)) :=
  PI.imp (pi_enumT hg hm ha hs) fun σ H R hw => by
    have h1 := tI.bind (R := RVs (cm X)) (m := n) (f := fun G as M1 => gEnumT as M1) hw
    refine tM.imp h1 fun vs H1 ⟨j, G, as, M, s, r, rr, q⟩ => ?_
    match as, rr, q with
    | [], _, q => exact q.elim
    | _ :: _ :: _, _, q => exact q.elim
    | [a1], .cons r1 .nil, q =>
        have q : postI (cm X) j H1 (gEnumT [a1] M) R (fun c d H' => W c d σ H') := q
        unfold gEnumT at q
        cases e1 : tvA a1 with
        | none => simp only [e1] at q; exact q.elim
        | some xs =>
          simp only [e1] at q
          obtain ⟨p1, us, rfl, g1, g2⟩ := tvA_at (C := cm X) r1 e1
          exact ⟨p1, us, rfl, g1 j H1 Ext.refl, q _ j H1 Ext.refl s (it_enumT g1 g2)⟩
end

/-! ### l[a:b] = [..] -/
def gSlV (X : Cx) (to : TE) (tl th : TO) : TG := fun v σ H Q => to σ H fun x H1 => tl σ H1 fun l H2 => th σ H2 fun u H3 => ∃ (p q : Addr) (xs ys : List V) (a c : Int), x = .ref p ∧ v = .ref q ∧ l = some a ∧ u = some c ∧ H3 p = some (.lst xs) ∧ H3 q = some (.lst ys) ∧ p ≠ q ∧ 0 ≤ a ∧ a ≤ c ∧ c ≤ xs.length ∧
  xs.length + ys.length ≤ sizeLine ∧ Q σ (upd H3 p (.lst (xs.take a.toNat ++ ys ++ xs.drop c.toNat)))
section
variable {X : Cx} {W : WX} {o : Expr} {lo hi : Option Expr} {to : TE} {tl th : TO} {pos p2 : Pos} {mo : EM} {ml mh : OM}
theorem pg_slV (ho : PE X o to) (hl : PO X lo tl) (hh : PO X hi th)
    (ha : ∀ v, assign (.Subscript o (.Slice lo hi none p2) pos) X.env v = (do
      let ov ← holding [v] (eval o X.env)
      let iv ← holding [v, ov] (eval (.Slice lo hi none p2) X.env)
      standAt pos
      holding [v, ov, iv] (setItem ov iv v)
      release [iv, v, ov] []) := by intro _; rfl) : PG X (.Subscript o (.Slice lo hi none p2) pos) (gSlV X to tl th) := by
  refine ⟨fun pins s σ H v u Q I r h => ?_⟩
  rw [ha]
  refine wpAny_bind (wpAny_holding (thn (ho.run pins s σ H _ I h) fun ov s1 ⟨x, H1, I1, r1, q1⟩ => ?_))
  refine wpAny_bind (wpAny_holding (wpAny_Slice (thn (hl.run pins s1 σ H1 _ I1 q1) fun vl s2 ⟨l, H2, I2, pl, q2⟩ => thn (hh.run pins s2 σ H2 _ I2 q2) fun vu s3 ⟨t, H3, I3, pu, q3⟩ => ?_)))
  rw [evalPart_none]
  obtain ⟨p, q, xs, ys, a, c, rfl, rfl, rfl, rfl, g1, g2, g3, g4, g5, g6, g7, k⟩ := q3
  cases r
  cases r1
  have I4 : Inv X pins σ H3 { s3 with heap := s3.heap.push { cls := .type "slice", data := .fields #[vl, vu, .none] } } := I3.kept (t' := s3.toks) fun b ob z => Heap.get?_push_of_some _ z
  cases pl with
  | int a ta =>
    cases pu with
    | int c tc =>
      refine wpAny_pure (wpAny_bind (wpAny_standAt (wpAny_bind (wpAny_holding (set_slice I4 g1 g2 g3 (Heap.IsSliceOf.new ..) ⟨ta, rfl⟩ ⟨tc, rfl⟩ g4 g5 g6 g7 fun s5 I5 => ?_)))))
      exact wpAny_release ⟨σ, _, I5, k⟩
def aSlV (a : AV) (l u : Option Int) (c : AV) (M : AH) : Option AH := match a, l, u, c with
  | .ref n, some i, some j, .lst ys => match M.objs[n]? with
    | some (.lst xs) => if 0 ≤ i ∧ i ≤ j ∧ j ≤ xs.length ∧ xs.length + ys.length ≤ 16777216 then some (setL M n (xs.take i.toNat ++ ys ++ xs.drop j.toNat)) else none
    | _ => none
  | _, _, _, _ => none
def gPutSl (mo : EM) (ml mh : OM) : TMt := fun c G M => match mo G M with
  | .ok a M1 => match ml G M1 with
    | .ok l M2 => match mh G M2 with
      | .ok u M3 => match aSlV a l u c M3 with
        | some M4 => .ok G M4
        | none => .stuck
      | _ => .stuck
    | _ => .stuck
  | _ => .stuck
theorem g_putSl (ho : PE X o (tE (cm X) W0 mo)) (hl : PO X lo (tO (cm X) W0 ml)) (hh : PO X hi (tO (cm X) W0 mh))
    (ha : ∀ v, assign (.Subscript o (.Slice lo hi none p2) pos) X.env v = (do
      let ov ← holding [v] (eval o X.env)
      let iv ← holding [v, ov] (eval (.Slice lo hi none p2) X.env)
      standAt pos
      holding [v, ov, iv] (setItem ov iv v)
      release [iv, v, ov] []) := by intro _; rfl) : PG X (.Subscript o (.Slice lo hi none p2) pos) (tG (cm X) (gPutSl mo ml mh)) :=
  PG.imp (pg_slV ho hl hh ha) fun v σ H Q ⟨k, G, M, c, s, r, rv, p⟩ => by
    unfold gPutSl at p
    refine ⟨k, G, M, s, r, ?_⟩
    cases e1 : mo G M with
    | stuck => rw [e1] at p; exact p
    | exc cl fs M1 => rw [e1] at p; exact False.elim p
    | ok a M1 =>
      simp only [e1] at p
      intro x j H1 ee1 s1 ra
      refine ⟨j, G, M1, s1, r.mono ee1, ?_⟩
      cases e2 : ml G M1 with
      | stuck => simp only [e2] at p; exact p
      | exc cl fs M2 => simp only [e2] at p; exact False.elim p
      | ok l M2 =>
        simp only [e2] at p
        intro l' j2 H2 ee2 s2 rl
        have rl' : l' = l := rl
        subst rl'
        refine ⟨j2, G, M2, s2, (r.mono ee1).mono ee2, ?_⟩
        cases e3 : mh G M2 with
        | stuck => simp only [e3] at p; exact p
        | exc cl fs M3 => simp only [e3] at p; exact False.elim p
        | ok u M3 =>
          simp only [e3] at p
          intro u' j3 H3 ee3 s3 ru
          have ru' : u' = u := ru
          subst ru'
          cases e4 : aSlV a l' u' c M3 with
          | none => simp only [e4] at p; exact False.elim p
          | some M4 =>
            simp only [e4] at p
            have rv3 := ((rv.mono ee1).mono ee2).mono ee3
            have ra3 := (ra.mono ee2).mono ee3
            unfold aSlV at e4
            split at e4
            · rename_i n i0 j0 ys
              cases ra3 with
              | @ref pa _ hn =>
                obtain ⟨d, hd, od⟩ := s3.get hn
                simp only [hd] at e4
                cases od with
                | @lst us xs h1 h2 =>
                  by_cases hz : 0 ≤ i0 ∧ i0 ≤ j0 ∧ j0 ≤ xs.length ∧ xs.length + ys.length ≤ 16777216
                  · simp only [if_pos hz, Option.some.injEq] at e4
                    subst e4
                    cases rv3 with
                    | @lst pb ws _ g1 g2 g3 =>
                      have ne : pa ≠ pb := fun z => g2 (.inl (z ▸ List.mem_of_getElem? hn))
                      obtain ⟨e', s'⟩ := setL_at s3 hn (VRs.app (h2.drop j0.toNat) (VRs.app g3 (h2.take i0.toNat))) h1
                      refine ⟨pa, pb, us, ws, i0, j0, rfl, rfl, rfl, rfl, h1, g1, ne, hz.1, hz.2.1, by rw [h2.len]; exact hz.2.2.1, by rw [h2.len, g3.len, sizeLine_eq]; exact hz.2.2.2, ?_⟩
                      exact p σ j3 _ (((ee1.trans ee2).trans ee3).trans e') s' ((((r.mono ee1).mono ee2).mono ee3).mono e')
                  · simp only [if_neg hz] at e4
                    cases e4
                | dK _ _ => cases e4
                | dT _ _ => cases e4
            · cases e4
end
end Mx

/-! Px1: going through mirrors: what is wanted behind, and the rules. -/
namespace Px
open PySem hiding Env plain
open L2 Mx

theorem byrfl {α : Sort u} {a b : α} (h : a = b) : a = b := h
def wpR {α : Type} (r : Res α) (P : α → AH → Prop) (E : Str → List (Str × AV) → AH → Prop) : Prop := match r with
  | .ok a M => P a M
  | .exc c fs M => E c fs M
  | .stuck => False
structure SD where
  nx : Env → AH → Prop
  rt : AV → AH → Prop
  ex : Str → List (Str × AV) → AH → Prop
  bk : Env → AH → Prop
  ct : Env → AH → Prop
def wpS (r : SR) (D : SD) : Prop := match r with
  | .next G M => D.nx G M
  | .ret a M => D.rt a M
  | .brk G M => D.bk G M
  | .cnt G M => D.ct G M
  | .exc c fs _ M => D.ex c fs M
  | .stuck => False

section
variable {α β : Type} {P : α → AH → Prop} {E : Str → List (Str × AV) → AH → Prop}
@[simp] theorem wpR_ok (a : α) (M : AH) : wpR (.ok a M) P E = P a M := byrfl rfl
@[simp] theorem wpR_exc (c : Str) (fs : List (Str × AV)) (M : AH) : wpR (.exc c fs M) P E = E c fs M := byrfl rfl
@[simp] theorem wpR_stuck : wpR (.stuck : Res α) P E = False := byrfl rfl
@[simp] theorem wpR_bind (r : Res β) (f : β → AH → Res α) : wpR (r.bind f) P E = wpR r (fun a M => wpR (f a M) P E) E := by cases r <;> rfl
@[simp] theorem wpR_sized (n : Nat) (r : Res α) : wpR (sized n r) P E = (n ≤ 16777216 ∧ wpR r P E) := by
  unfold sized
  by_cases h : n ≤ 16777216 <;> simp [h]
theorem wpR.imp {r : Res α} {P P' : α → AH → Prop} {E E' : Str → List (Str × AV) → AH → Prop} (h : wpR r P E) (hp : ∀ a M, P a M → P' a M) (he : ∀ c fs M, E c fs M → E' c fs M) : wpR r P' E' := by
  cases r with
  | ok a M => exact hp _ _ h
  | exc c fs M => exact he _ _ _ h
  | stuck => exact h
theorem wpR.imp0 {r : Res α} {P P' : α → AH → Prop} (h : wpR r P fun _ _ _ => False) (hp : ∀ a M, P a M → P' a M) : wpR r P' E := h.imp hp fun _ _ _ z => z.elim
theorem wpR_ite {c : Prop} [Decidable c] {r s : Res α} : wpR (if c then r else s) P E = if c then wpR r P E else wpR s P E := by by_cases h : c <;> simp [h]
theorem wpR_eq {r : Res α} {a : α} {M : AH} (h : wpR r (fun b M' => b = a ∧ M' = M) fun _ _ _ => False) : r = .ok a M := by
  cases r with
  | ok b M' => obtain ⟨rfl, rfl⟩ := h; rfl
  | exc c fs M => exact h.elim
  | stuck => exact h.elim
end

section
variable {D : SD} {G : Env} {M : AH}
@[simp] theorem wpS_next : wpS (.next G M) D = D.nx G M := byrfl rfl
@[simp] theorem wpS_ret (a : AV) : wpS (.ret a M) D = D.rt a M := byrfl rfl
@[simp] theorem wpS_brk : wpS (.brk G M) D = D.bk G M := byrfl rfl
@[simp] theorem wpS_cnt : wpS (.cnt G M) D = D.ct G M := byrfl rfl
@[simp] theorem wpS_exc (c : Str) (fs : List (Str × AV)) : wpS (.exc c fs G M) D = D.ex c fs M := byrfl rfl
@[simp] theorem wpS_stuck : wpS .stuck D = False := byrfl rfl
theorem wpS_ite {c : Prop} [Decidable c] {r s : SR} : wpS (if c then r else s) D = if c then wpS r D else wpS s D := by by_cases h : c <;> simp [h]
@[simp] theorem wpS_st {α : Type} (r : Res α) (f : α → AH → SR) : wpS (r.st G f) D = wpR r (fun a M => wpS (f a M) D) D.ex := by cases r <;> rfl
@[simp] theorem wpS_seq (r : SR) (n : SM) : wpS (r.seq n) D = wpS r ⟨fun G M => wpS (n G M) D, D.rt, D.ex, D.bk, D.ct⟩ := by cases r <;> rfl
theorem wpS.imp {r : SR} {D D' : SD} (h : wpS r D) (h1 : ∀ G M, D.nx G M → D'.nx G M) (h2 : ∀ a M, D.rt a M → D'.rt a M) (h3 : ∀ c fs M, D.ex c fs M → D'.ex c fs M) (h4 : ∀ G M, D.bk G M → D'.bk G M) (h5 : ∀ G M, D.ct G M → D'.ct G M) : wpS r D' := by
  cases r with
  | next G M => exact h1 _ _ h
  | ret a M => exact h2 _ _ h
  | brk G M => exact h4 _ _ h
  | cnt G M => exact h5 _ _ h
  | exc c fs G M => exact h3 _ _ _ h
  | stuck => exact h
@[simp] theorem wpS_then (m n : SM) : wpS (mThen m n G M) D = wpS (m G M) ⟨fun G M => wpS (n G M) D, D.rt, D.ex, D.bk, D.ct⟩ := byrfl (wpS_seq _ _)
@[simp] theorem wpS_mnext : wpS (mNext G M) D = D.nx G M := byrfl rfl
@[simp] theorem wpS_mbrk : wpS (mBrk G M) D = D.bk G M := byrfl rfl
@[simp] theorem wpS_mcnt : wpS (mCnt G M) D = D.ct G M := byrfl rfl
@[simp] theorem wpS_exp (m : EM) : wpS (mExp m G M) D = wpR (m G M) (fun _ M1 => D.nx G M1) D.ex := byrfl (wpS_st _ _)
@[simp] theorem wpS_mret (m : EM) : wpS (mRet m G M) D = wpR (m G M) D.rt D.ex := byrfl (wpS_st _ _)
@[simp] theorem wpS_retN : wpS (mRetN G M) D = D.rt .non M := byrfl rfl
@[simp] theorem wpS_set (k : Nat) (m : EM) : wpS (mSet k m G M) D = wpR (m G M) (fun a M1 => D.nx (G.set k (some a)) M1) D.ex := byrfl (wpS_st _ _)
@[simp] theorem wpS_if (t : BM) (m n : SM) : wpS (mIf t m n G M) D = wpR (t G M) (fun c M1 => if c = true then wpS (m G M1) D else wpS (n G M1) D) D.ex := by
  unfold mIf
  rw [wpS_st]
  congr 1
  funext c M1
  exact wpS_ite
@[simp] theorem wpS_asg (t : TMt) (m : EM) : wpS (mAsg t m G M) D = wpR (m G M) (fun a M1 => wpR (t a G M1) D.nx fun _ _ _ => False) D.ex := by
  unfold mAsg
  rw [wpS_st]
  congr 1
  funext a M1
  cases t a G M1 <;> rfl
end

section
variable {G : Env} {M : AH} {E : Str → List (Str × AV) → AH → Prop}
section
variable {P : AV → AH → Prop}
@[simp] theorem w_c (a : AV) : wpR (mC a G M) P E = P a M := byrfl rfl
theorem w_var {n : Nat} {a : AV} (h : G[n]? = some (some a)) : wpR (mVar n G M) P E = P a M := by
  unfold mVar
  rw [h]
  rfl
@[simp] theorem w_var0 {a : AV} {r : Env} : wpR (mVar 0 (some a :: r) M) P E = P a M := byrfl rfl
@[simp] theorem w_varS {n : Nat} {o : Option AV} {r : Env} : wpR (mVar (n + 1) (o :: r) M) P E = wpR (mVar n r M) P E := byrfl rfl
@[simp] theorem w_var1 {a : AV} {o : Option AV} {r : Env} : wpR (mVar 1 (o :: some a :: r) M) P E = P a M := byrfl rfl
@[simp] theorem w_var2 {a : AV} {o p : Option AV} {r : Env} : wpR (mVar 2 (o :: p :: some a :: r) M) P E = P a M := byrfl rfl
@[simp] theorem w_var3 {a : AV} {o p q : Option AV} {r : Env} : wpR (mVar 3 (o :: p :: q :: some a :: r) M) P E = P a M := byrfl rfl
@[simp] theorem w_var4 {a : AV} {o p q s : Option AV} {r : Env} : wpR (mVar 4 (o :: p :: q :: s :: some a :: r) M) P E = P a M := byrfl rfl
@[simp] theorem w_var5 {a : AV} {o p q s t : Option AV} {r : Env} : wpR (mVar 5 (o :: p :: q :: s :: t :: some a :: r) M) P E = P a M := byrfl rfl
@[simp] theorem w_var6 {a : AV} {o p q s t u : Option AV} {r : Env} : wpR (mVar 6 (o :: p :: q :: s :: t :: u :: some a :: r) M) P E = P a M := byrfl rfl
@[simp] theorem w_var7 {a : AV} {o p q s t u v : Option AV} {r : Env} : wpR (mVar 7 (o :: p :: q :: s :: t :: u :: v :: some a :: r) M) P E = P a M := byrfl rfl
@[simp] theorem w_var8 {a : AV} {o p q s t u v w : Option AV} {r : Env} : wpR (mVar 8 (o :: p :: q :: s :: t :: u :: v :: w :: some a :: r) M) P E = P a M := byrfl rfl
@[simp] theorem w_var9 {a : AV} {o p q s t u v w x : Option AV} {r : Env} : wpR (mVar 9 (o :: p :: q :: s :: t :: u :: v :: w :: x :: some a :: r) M) P E = P a M := byrfl rfl
@[simp] theorem w_var10 {a : AV} {o p q s t u v w x y : Option AV} {r : Env} : wpR (mVar 10 (o :: p :: q :: s :: t :: u :: v :: w :: x :: y :: some a :: r) M) P E = P a M := byrfl rfl
@[simp] theorem w_var11 {a : AV} {o0 o1 o2 o3 o4 o5 o6 o7 o8 o9 o10 : Option AV} {r : Env} : wpR (mVar 11 (o0 :: o1 :: o2 :: o3 :: o4 :: o5 :: o6 :: o7 :: o8 :: o9 :: o10 :: some a :: r) M) P E = P a M := byrfl rfl
@[simp] theorem w_var12 {a : AV} {o0 o1 o2 o3 o4 o5 o6 o7 o8 o9 o10 o11 : Option AV} {r : Env} : wpR (mVar 12 (o0 :: o1 :: o2 :: o3 :: o4 :: o5 :: o6 :: o7 :: o8 :: o9 :: o10 :: o11 :: some a :: r) M) P E = P a M := byrfl rfl
@[simp] theorem w_var13 {a : AV} {o0 o1 o2 o3 o4 o5 o6 o7 o8 o9 o10 o11 o12 : Option AV} {r : Env} : wpR (mVar 13 (o0 :: o1 :: o2 :: o3 :: o4 :: o5 :: o6 :: o7 :: o8 :: o9 :: o10 :: o11 :: o12 :: some a :: r) M) P E = P a M := byrfl rfl
@[simp] theorem w_var14 {a : AV} {o0 o1 o2 o3 o4 o5 o6 o7 o8 o9 o10 o11 o12 o13 : Option AV} {r : Env} : wpR (mVar 14 (o0 :: o1 :: o2 :: o3 :: o4 :: o5 :: o6 :: o7 :: o8 :: o9 :: o10 :: o11 :: o12 :: o13 :: some a :: r) M) P E = P a M := byrfl rfl
@[simp] theorem w_var15 {a : AV} {o0 o1 o2 o3 o4 o5 o6 o7 o8 o9 o10 o11 o12 o13 o14 : Option AV} {r : Env} : wpR (mVar 15 (o0 :: o1 :: o2 :: o3 :: o4 :: o5 :: o6 :: o7 :: o8 :: o9 :: o10 :: o11 :: o12 :: o13 :: o14 :: some a :: r) M) P E = P a M := byrfl rfl
@[simp] theorem w_var16 {a : AV} {o0 o1 o2 o3 o4 o5 o6 o7 o8 o9 o10 o11 o12 o13 o14 o15 : Option AV} {r : Env} : wpR (mVar 16 (o0 :: o1 :: o2 :: o3 :: o4 :: o5 :: o6 :: o7 :: o8 :: o9 :: o10 :: o11 :: o12 :: o13 :: o14 :: o15 :: some a :: r) M) P E = P a M := byrfl rfl
@[simp] theorem w_var17 {a : AV} {o0 o1 o2 o3 o4 o5 o6 o7 o8 o9 o10 o11 o12 o13 o14 o15 o16 : Option AV} {r : Env} : wpR (mVar 17 (o0 :: o1 :: o2 :: o3 :: o4 :: o5 :: o6 :: o7 :: o8 :: o9 :: o10 :: o11 :: o12 :: o13 :: o14 :: o15 :: o16 :: some a :: r) M) P E = P a M := byrfl rfl
@[simp] theorem w_var18 {a : AV} {o0 o1 o2 o3 o4 o5 o6 o7 o8 o9 o10 o11 o12 o13 o14 o15 o16 o17 : Option AV} {r : Env} : wpR (mVar 18 (o0 :: o1 :: o2 :: o3 :: o4 :: o5 :: o6 :: o7 :: o8 :: o9 :: o10 :: o11 :: o12 :: o13 :: o14 :: o15 :: o16 :: o17 :: some a :: r) M) P E = P a M := byrfl rfl
@[simp] theorem w_var19 {a : AV} {o0 o1 o2 o3 o4 o5 o6 o7 o8 o9 o10 o11 o12 o13 o14 o15 o16 o17 o18 : Option AV} {r : Env} : wpR (mVar 19 (o0 :: o1 :: o2 :: o3 :: o4 :: o5 :: o6 :: o7 :: o8 :: o9 :: o10 :: o11 :: o12 :: o13 :: o14 :: o15 :: o16 :: o17 :: o18 :: some a :: r) M) P E = P a M := byrfl rfl
@[simp] theorem w_var20 {a : AV} {o0 o1 o2 o3 o4 o5 o6 o7 o8 o9 o10 o11 o12 o13 o14 o15 o16 o17 o18 o19 : Option AV} {r : Env} : wpR (mVar 20 (o0 :: o1 :: o2 :: o3 :: o4 :: o5 :: o6 :: o7 :: o8 :: o9 :: o10 :: o11 :: o12 :: o13 :: o14 :: o15 :: o16 :: o17 :: o18 :: o19 :: some a :: r) M) P E = P a M := byrfl rfl
@[simp] theorem w_var21 {a : AV} {o0 o1 o2 o3 o4 o5 o6 o7 o8 o9 o10 o11 o12 o13 o14 o15 o16 o17 o18 o19 o20 : Option AV} {r : Env} : wpR (mVar 21 (o0 :: o1 :: o2 :: o3 :: o4 :: o5 :: o6 :: o7 :: o8 :: o9 :: o10 :: o11 :: o12 :: o13 :: o14 :: o15 :: o16 :: o17 :: o18 :: o19 :: o20 :: some a :: r) M) P E = P a M := byrfl rfl
@[simp] theorem w_var22 {a : AV} {o0 o1 o2 o3 o4 o5 o6 o7 o8 o9 o10 o11 o12 o13 o14 o15 o16 o17 o18 o19 o20 o21 : Option AV} {r : Env} : wpR (mVar 22 (o0 :: o1 :: o2 :: o3 :: o4 :: o5 :: o6 :: o7 :: o8 :: o9 :: o10 :: o11 :: o12 :: o13 :: o14 :: o15 :: o16 :: o17 :: o18 :: o19 :: o20 :: o21 :: some a :: r) M) P E = P a M := byrfl rfl
@[simp] theorem w_var23 {a : AV} {o0 o1 o2 o3 o4 o5 o6 o7 o8 o9 o10 o11 o12 o13 o14 o15 o16 o17 o18 o19 o20 o21 o22 : Option AV} {r : Env} : wpR (mVar 23 (o0 :: o1 :: o2 :: o3 :: o4 :: o5 :: o6 :: o7 :: o8 :: o9 :: o10 :: o11 :: o12 :: o13 :: o14 :: o15 :: o16 :: o17 :: o18 :: o19 :: o20 :: o21 :: o22 :: some a :: r) M) P E = P a M := byrfl rfl
@[simp] theorem w_var24 {a : AV} {o0 o1 o2 o3 o4 o5 o6 o7 o8 o9 o10 o11 o12 o13 o14 o15 o16 o17 o18 o19 o20 o21 o22 o23 : Option AV} {r : Env} : wpR (mVar 24 (o0 :: o1 :: o2 :: o3 :: o4 :: o5 :: o6 :: o7 :: o8 :: o9 :: o10 :: o11 :: o12 :: o13 :: o14 :: o15 :: o16 :: o17 :: o18 :: o19 :: o20 :: o21 :: o22 :: o23 :: some a :: r) M) P E = P a M := byrfl rfl
@[simp] theorem w_bin (g : AV → AV → AH → Res AV) (ma mb : EM) : wpR (mBin g ma mb G M) P E = wpR (ma G M) (fun a M1 => wpR (mb G M1) (fun b M2 => wpR (g a b M2) P E) E) E := by
  unfold mBin
  simp
@[simp] theorem w_un (g : AV → AH → Res AV) (ma : EM) : wpR (mUn g ma G M) P E = wpR (ma G M) (fun a M1 => wpR (g a M1) P E) E := by
  unfold mUn
  simp
@[simp] theorem w_ifE (t : BM) (m n : EM) : wpR (mIfE t m n G M) P E = wpR (t G M) (fun c M1 => if c = true then wpR (m G M1) P E else wpR (n G M1) P E) E := by
  unfold mIfE
  simp [wpR_ite]
@[simp] theorem w_andV (m n : EM) : wpR (mAndV m n G M) P E = wpR (m G M) (fun a M1 => ∃ c, a = .bl c ∧ if c = true then wpR (n G M1) P E else P (.bl false) M1) E := by
  unfold mAndV
  rw [wpR_bind]
  congr 1
  funext a M1
  cases a with
  | bl c => cases c <;> simp
  | _ => simp
@[simp] theorem w_orV (m n : EM) : wpR (mOrV m n G M) P E = wpR (m G M) (fun a M1 => ∃ c, a = .bl c ∧ if c = true then P (.bl true) M1 else wpR (n G M1) P E) E := by
  unfold mOrV
  rw [wpR_bind]
  congr 1
  funext a M1
  cases a with
  | bl c => cases c <;> simp
  | _ => simp
@[simp] theorem w_notV (m : EM) : wpR (mNotV m G M) P E = wpR (m G M) (fun a M1 => ∃ c, a = .bl c ∧ P (.bl (!c)) M1) E := by
  unfold mNotV
  rw [wpR_bind]
  congr 1
  funext a M1
  cases a <;> simp
@[simp] theorem w_call (g : List AV → AH → Res AV) (n : AM) : wpR (mCall g n G M) P E = wpR (n G M) (fun as M1 => wpR (g as M1) P E) E := by
  unfold mCall
  simp
@[simp] theorem w_chain (g h : AV → AV → AH → Res AV) (ma mb mc : EM) : wpR (mChain g h ma mb mc G M) P E = wpR (ma G M) (fun a M1 => wpR (mb G M1) (fun b M2 => wpR (g a b M2) (fun r M3 => ∃ k, r = .bl k ∧ if k = true then wpR (mc G M3) (fun c M4 => wpR (h b c M4) P E) E else P (.bl false) M3) E) E) E := by
  unfold mChain
  simp only [wpR_bind]
  congr 1; funext a M1; congr 1; funext b M2; congr 1; funext r M3
  cases r with
  | bl k => cases k <;> simp
  | _ => simp
@[simp] theorem w_meth (ty : AH → AV → Bool) (g : AV → List AV → AH → Res AV) (m : EM) (n : AM) : wpR (mMeth ty g m n G M) P E = wpR (m G M) (fun a M1 => ty M1 a = true ∧ wpR (n G M1) (fun as M2 => wpR (g a as M2) P E) E) E := by
  unfold mMeth
  simp only [wpR_bind]
  congr 1; funext a M1
  by_cases h : ty M1 a = true <;> simp [h]
@[simp] theorem w_meth0 (ty : AH → AV → Bool) (g : AV → List AV → AH → Res AV) (m : EM) : wpR (mMeth0 ty g m G M) P E = wpR (m G M) (fun a M1 => ty M1 a = true ∧ wpR (g a [] M1) P E) E := by
  unfold mMeth0
  simp only [wpR_bind]
  congr 1; funext a M1
  by_cases h : ty M1 a = true <;> simp [h]
@[simp] theorem w_sl (g : AV → Option Int → Option Int → AH → Res AV) (m : EM) (ml mh : OM) : wpR (mSl g m ml mh G M) P E = wpR (m G M) (fun a M1 => wpR (ml G M1) (fun l M2 => wpR (mh G M2) (fun h M3 => wpR (g a l h M3) P E) E) E) E := by
  unfold mSl
  simp
end
@[simp] theorem w_noPart {P : Option Int → AH → Prop} : wpR (mNoPart G M) P E = P none M := byrfl rfl
@[simp] theorem w_part {P : Option Int → AH → Prop} (m : EM) : wpR (mPart m G M) P E = wpR (m G M) (fun a M1 => ∃ i, a = .int i ∧ P (some i) M1) E := by
  unfold mPart
  rw [wpR_bind]
  congr 1
  funext a M1
  cases a <;> simp
section
variable {P : List AV → AH → Prop}
@[simp] theorem w_nil : wpR (mNil G M) P E = P [] M := byrfl rfl
@[simp] theorem w_cons (m : EM) (n : AM) : wpR (mCons m n G M) P E = wpR (m G M) (fun a M1 => wpR (n G M1) (fun as M2 => P (a :: as) M2) E) E := by
  unfold mCons
  simp
end
section
variable {P : Bool → AH → Prop}
@[simp] theorem w_bl (m : EM) : wpR (mBl m G M) P E = wpR (m G M) (fun a M1 => ∃ c, a = .bl c ∧ P c M1) E := by
  unfold mBl
  rw [wpR_bind]
  congr 1
  funext a M1
  cases a <;> simp
@[simp] theorem w_tru (m : EM) : wpR (mTru m G M) P E = wpR (m G M) (fun a M1 => wpR (aTru a M1) P E) E := by
  unfold mTru
  simp
@[simp] theorem w_and (m n : BM) : wpR (mAnd m n G M) P E = wpR (m G M) (fun c M1 => if c = true then wpR (n G M1) P E else P false M1) E := by
  unfold mAnd
  simp [wpR_ite]
@[simp] theorem w_or (m n : BM) : wpR (mOr m n G M) P E = wpR (m G M) (fun c M1 => if c = true then P true M1 else wpR (n G M1) P E) E := by
  unfold mOr
  simp [wpR_ite]
@[simp] theorem w_not (m : BM) : wpR (mNot m G M) P E = wpR (m G M) (fun c M1 => P (!c) M1) E := by
  unfold mNot
  simp
end
end

/-! ### defs -/
section
variable {P : AV → AH → Prop} {E : Str → List (Str × AV) → AH → Prop}
/-- what is wanted behind a def's body -/
def defD (P : AV → AH → Prop) (E : Str → List (Str × AV) → AH → Prop) : SD := ⟨fun _ M => P .non M, P, E, fun _ _ => False, fun _ _ => False⟩
@[simp] theorem defD_nx (G : Env) (M : AH) : (defD P E).nx G M = P .non M := byrfl rfl
@[simp] theorem defD_rt : (defD P E).rt = P := byrfl rfl
@[simp] theorem defD_ex : (defD P E).ex = E := byrfl rfl
@[simp] theorem defD_bk (G : Env) (M : AH) : (defD P E).bk G M = False := byrfl rfl
@[simp] theorem defD_ct (G : Env) (M : AH) : (defD P E).ct G M = False := byrfl rfl
theorem wp_def {n k : Nat} {b : SM} {as : List AV} {M : AH} (hl : as.length = n) (h : wpS (b (as.map some ++ List.replicate k none) M) (defD P E)) : wpR (mDef n k b as M) P E := by
  unfold mDef
  rw [if_pos hl]
  cases q : b (as.map some ++ List.replicate k none) M <;> rw [q] at h <;> exact h
end

/-! ### what is swept away at a def's end -/
theorem fin_same (M : AH) (a : AV) : fin M.objs.length M a = a := by
  cases a with
  | ref k =>
    unfold fin
    by_cases h : k < M.objs.length
    · simp [h]
    · simp [h]
  | _ => rfl
theorem cut_same (M : AH) : M.cut M.objs.length = M := by
  unfold AH.cut
  rw [List.take_length]
theorem clean_same (n : Nat) (M : AH) (h : n ≤ M.objs.length) : Clean n M M := ⟨rfl, h, fun k c _ h => .inl h⟩
/-- a def that leaves the heap as it was -/
theorem gc_same {m : List AV → AH → Res AV} {as : List AV} {M : AH} {a : AV} (h : m as M = .ok a M) : gc m as M = .ok a M := by
  unfold gc
  rw [h]
  simp only [fin_same, cut_same]
  split <;> rfl
/-- a def that leaves new things behind it, none of which its answer needs -/
theorem gc_tmp {m : List AV → AH → Res AV} {as : List AV} {M : AH} {a : AV} {l : List AV} (h : m as M = .ok a ⟨M.objs ++ l, M.fz⟩) (hc : cl M.objs.length (fin M.objs.length ⟨M.objs ++ l, M.fz⟩ a) = true) : gc m as M = .ok (fin M.objs.length ⟨M.objs ++ l, M.fz⟩ a) M := by
  unfold gc
  rw [h]
  have hk : Clean M.objs.length M ⟨M.objs ++ l, M.fz⟩ := ⟨rfl, by simp, fun k c hk q => .inl (by
    have q : (M.objs ++ l)[k]? = some c := q
    rwa [List.getElem?_append_left hk] at q)⟩
  simp only [hk, hc, and_self, if_true, AH.cut, List.take_left']
theorem pure_eq {n k : Nat} {b : SM} {as : List AV} {M : AH} {a : AV} (hl : as.length = n) (h : wpS (b (as.map some ++ List.replicate k none) M) (defD (fun x M' => x = a ∧ M' = M) fun _ _ _ => False)) : gc (mDef n k b) as M = .ok a M :=
  gc_same (wpR_eq (wp_def hl h))
mutual
theorem plain_cl (n : Nat) : ∀ (d : Nat) (a : AV), plain d a = true → cl n a = true
  | _, .non, _ => rfl
  | _, .bl _, _ => rfl
  | _, .int _, _ => rfl
  | _, .str _, _ => rfl
  | 0, .tup _, h => by simp [plain] at h
  | 0, .lst _, h => by simp [plain] at h
  | 0, .fro _, h => by simp [plain] at h
  | 0, .tuc _, h => by simp [plain] at h
  | d + 1, .tup xs, h => plain_cls n d xs (by simpa [plain] using h)
  | d + 1, .lst xs, h => plain_cls n d xs (by simpa [plain] using h)
  | d + 1, .fro xs, h => plain_cls n d xs (by simpa [plain] using h)
  | d + 1, .tuc xs, h => plain_cls n d xs (by simpa [plain] using h)
  | d, .dK _, h => by cases d <;> simp [plain] at h
  | d, .dT _, h => by cases d <;> simp [plain] at h
  | d, .ref _, h => by cases d <;> simp [plain] at h
theorem plain_cls (n : Nat) : ∀ (d : Nat) (xs : List AV), (∀ a ∈ xs, plain d a = true) → cls n xs = true
  | _, [], _ => rfl
  | d, a :: r, h => by
    simp only [cls, Bool.and_eq_true]
    exact ⟨plain_cl n d a (h a (by simp)), plain_cls n d r fun b hb => h b (by simp [hb])⟩
end
end Px

/-! Px2: loops, operators at plain values, showable things, the feed. -/
namespace Px
open PySem hiding Env plain
open L2 Mx StrLaws

/-! ### lists written, loops -/
section
variable {G : Env} {M : AH} {E : Str → List (Str × AV) → AH → Prop}
@[simp] theorem w_lcV {P : AV → AH → Prop} (m : AM) : wpR (mLcV m G M) P E = wpR (m G M) (fun as M1 => P (.lst as) M1) E := by
  unfold mLcV
  simp
@[simp] theorem w_lcR {P : AV → AH → Prop} (m : AM) : wpR (mLcR m G M) P E = wpR (m G M) (fun as M1 => P (.ref M1.objs.length) ⟨M1.objs ++ [.lst as], M1.fz⟩) E := by
  unfold mLcR
  simp
@[simp] theorem w_lc {P : List AV → AH → Prop} (vs : List Nat) (ms : IM) (t : TMt) (c : BM) (el : EM) : wpR (mLc vs ms t c el G M) P E = wpR (ms G M) (fun S M1 => wpR (lcl S t c el (wipeG G vs) S.items [] M1) P E) E := by
  unfold mLc
  cases ms G M <;> simp
@[simp] theorem w_seq {P : Src → AH → Prop} (m : EM) : wpR (mSeq m G M) P E = wpR (m G M) (fun a M1 => ∃ S, seqOf M1 a = some S ∧ P S M1) E := by
  unfold mSeq
  rw [wpR_bind]
  congr 1
  funext a M1
  cases seqOf M1 a <;> simp
@[simp] theorem w_rng1 {P : Src → AH → Prop} (m : EM) : wpR (mRng1 (mCons m mNil) G M) P E = wpR (m G M) (fun a M1 => wpR (gRng [a] M1) P E) E := by
  unfold mRng1
  simp
@[simp] theorem w_rng2 {P : Src → AH → Prop} (m n : EM) : wpR (mRng2 (mCons m (mCons n mNil)) G M) P E = wpR (m G M) (fun a M1 => wpR (n G M1) (fun b M2 => wpR (gRng [a, b] M2) P E) E) E := by
  unfold mRng2
  simp
theorem w_gRng1 {P : Src → AH → Prop} {n : Int} (h : rngOk n = true) : wpR (gRng [.int n] M) P E = P ⟨rngItems 0 n.toNat, none⟩ M := by
  simp [gRng, h]
@[simp] theorem wpS_for {D : SD} (ms : IM) (t : TMt) (body : SM) : wpS (mFor ms t body G M) D = wpR (ms G M) (fun S M1 => wpS (loop S t body S.items G M1) D) D.ex := by
  unfold mFor
  cases ms G M <;> rfl
end
theorem mem_rng {a : AV} {lo : Int} {n : Nat} (h : a ∈ rngItems lo n) : ∃ k : Nat, k < n ∧ a = .int (lo + k) := by
  unfold rngItems at h
  obtain ⟨k, hk, rfl⟩ := List.mem_map.mp h
  exact ⟨k, List.mem_range.mp hk, rfl⟩
theorem rng_len (lo : Int) (n : Nat) : (rngItems lo n).length = n := by simp [rngItems]
theorem held_none {l : List AV} {M : AH} : (Src.mk l none).held M := trivial
section
variable {l0 : List AV} {t : TMt} {body : SM} {c : BM} {el : EM} {G : Env} {M : AH} {a : AV} {r acc : List AV}
theorem loop_nil : loop ⟨l0, none⟩ t body [] G M = .next G M := if_pos held_none
theorem loop_cons : loop ⟨l0, none⟩ t body (a :: r) G M = (match t a G M with
    | .ok G1 M1 => (match body G1 M1 with
      | .next G2 M2 => loop ⟨l0, none⟩ t body r G2 M2
      | .cnt G2 M2 => loop ⟨l0, none⟩ t body r G2 M2
      | .brk G2 M2 => .next G2 M2
      | r => r)
    | _ => .stuck) := if_pos held_none
theorem lcl_nil : lcl ⟨l0, none⟩ t c el G [] acc M = .ok acc M := if_pos held_none
theorem lcl_cons : lcl ⟨l0, none⟩ t c el G (a :: r) acc M = (match t a G M with
    | .ok G1 M1 => (match c G1 M1 with
      | .ok b M2 => if b = true then (match el G1 M2 with
        | .ok y M3 => sized (acc.length + 1) (lcl ⟨l0, none⟩ t c el G r (acc ++ [y]) M3)
        | _ => .stuck) else lcl ⟨l0, none⟩ t c el G r acc M2
      | _ => .stuck)
    | _ => .stuck) := if_pos held_none
end

/-- a list written by a comprehension, by an invariant -/
theorem wp_lcl {l0 : List AV} {t : TMt} {c : BM} {el : EM} {G : Env} {E : Str → List (Str × AV) → AH → Prop} (I : List AV → AH → Prop) {P : List AV → AH → Prop} :
    ∀ (items acc : List AV) (M : AH), acc.length + items.length ≤ 16777216 → I acc M →
    (∀ a ∈ items, ∀ acc M, I acc M → wpR (t a G M) (fun G1 M1 => wpR (c G1 M1) (fun b M2 => if b = true then wpR (el G1 M2) (fun y M3 => I (acc ++ [y]) M3) fun _ _ _ => False else I acc M2) fun _ _ _ => False) fun _ _ _ => False) →
    (∀ acc' M', acc'.length ≤ acc.length + items.length → I acc' M' → P acc' M') → wpR (lcl ⟨l0, none⟩ t c el G items acc M) P E
  | [], acc, M, hn, h, _, hp => by
    simp only [lcl_nil, wpR_ok]
    exact hp _ _ (by simp) h
  | a :: r, acc, M, hn, h, hs, hp => by
    have h1 := hs a (by simp) acc M h
    simp only [List.length_cons] at hn
    have ih := fun acc' M' (hl : acc'.length ≤ acc.length + 1) (hI : I acc' M') => wp_lcl (l0 := l0) (E := E) (P := P) (c := c) (t := t) (el := el) (G := G) I r acc' M' (by omega) hI (fun b hb => hs b (by simp [hb])) (fun acc2 M2 hl2 => hp acc2 M2 (by simp only [List.length_cons]; omega))
    simp only [lcl_cons]
    cases q : t a G M with
    | ok G1 M1 =>
      rw [q] at h1
      simp only [wpR_ok] at h1
      cases q2 : c G1 M1 with
      | ok b M2 =>
        rw [q2] at h1
        simp only [wpR_ok] at h1
        by_cases hb : b = true
        · simp only [hb, if_true] at h1
          simp only [q2, hb, if_true]
          cases q3 : el G1 M2 with
          | ok y M3 =>
            rw [q3] at h1
            simp only [wpR_ok] at h1
            simp only [wpR_sized]
            refine ⟨by omega, ih _ _ (by simp) h1⟩
          | exc c fs M' => rw [q3] at h1; exact h1.elim
          | stuck => rw [q3] at h1; exact h1.elim
        · simp only [hb, if_false] at h1
          simp only [q2, hb, if_false]
          exact ih _ _ (by omega) h1
      | exc c fs M' => rw [q2] at h1; exact h1.elim
      | stuck => rw [q2] at h1; exact h1.elim
    | exc c fs M' => rw [q] at h1; exact h1.elim
    | stuck => rw [q] at h1; exact h1.elim
/-- one that looks only -/
theorem lcl_pure {l0 : List AV} {t : TMt} {c : BM} {el : EM} {G : Env} {M : AH} (p : AV → Bool) (f : AV → AV) :
    ∀ (items acc : List AV), acc.length + items.length ≤ 16777216 →
    (∀ a ∈ items, ∃ G1, t a G M = .ok G1 M ∧ c G1 M = .ok (p a) M ∧ (p a = true → el G1 M = .ok (f a) M)) →
    lcl ⟨l0, none⟩ t c el G items acc M = .ok (acc ++ (items.filter p).map f) M
  | [], acc, _, _ => by simp [lcl_nil]
  | a :: r, acc, hn, h => by
    obtain ⟨G1, h1, h2, h3⟩ := h a (by simp)
    simp only [List.length_cons] at hn
    simp only [lcl_cons, h1, h2]
    by_cases hp : p a = true
    · simp only [hp, if_true, h3 hp]
      rw [lcl_pure p f r _ (by simp; omega) fun b hb => h b (by simp [hb])]
      unfold sized
      rw [if_pos (by omega)]
      simp [hp]
    · simp only [hp, if_false]
      rw [lcl_pure p f r _ (by omega) fun b hb => h b (by simp [hb])]
      simp [hp]
/-- a loop, by an invariant -/
theorem wp_loop {l0 : List AV} {t : TMt} {body : SM} {D : SD} (I : Nat → Env → AH → Prop) :
    ∀ (items : List AV) (k : Nat) (G : Env) (M : AH), I k G M →
    (∀ j a G M, items[j]? = some a → I (k + j) G M → wpR (t a G M) (fun G1 M1 => wpS (body G1 M1) ⟨I (k + j + 1), D.rt, D.ex, D.nx, I (k + j + 1)⟩) fun _ _ _ => False) →
    (∀ G M, I (k + items.length) G M → D.nx G M) → wpS (loop ⟨l0, none⟩ t body items G M) D
  | [], k, G, M, h, _, hp => by
    simp only [loop_nil, wpS_next]
    exact hp _ _ h
  | a :: r, k, G, M, h, hs, hp => by
    have h1 := hs 0 a G M rfl h
    have ih := fun G' M' (hI : I (k + 1) G' M') => wp_loop (l0 := l0) (D := D) (t := t) (body := body) I r (k + 1) G' M' hI (fun j b G2 M2 hb hI2 => by
      have q := hs (j + 1) b G2 M2 (by simpa using hb) (by rwa [show k + (j + 1) = k + 1 + j by omega])
      rwa [show k + (j + 1) = k + 1 + j by omega] at q) (fun G2 M2 hI2 => hp _ _ (by rwa [List.length_cons, show k + (r.length + 1) = k + 1 + r.length by omega]))
    simp only [loop_cons]
    cases q : t a G M with
    | ok G1 M1 =>
      rw [q] at h1
      simp only [wpR_ok] at h1
      show wpS (match body G1 M1 with
        | .next G2 M2 => loop ⟨l0, none⟩ t body r G2 M2
        | .cnt G2 M2 => loop ⟨l0, none⟩ t body r G2 M2
        | .brk G2 M2 => .next G2 M2
        | r => r) D
      cases q2 : body G1 M1 with
      | next G2 M2 => rw [q2] at h1; exact ih _ _ h1
      | cnt G2 M2 => rw [q2] at h1; exact ih _ _ h1
      | brk G2 M2 => rw [q2] at h1; exact h1
      | ret a M => rw [q2] at h1; exact h1
      | exc c fs G M => rw [q2] at h1; exact h1
      | stuck => rw [q2] at h1; exact h1
    | exc c fs M' => rw [q] at h1; exact h1.elim
    | stuck => rw [q] at h1; exact h1.elim

/-! ### operators at plain values -/
section
variable {M : AH} {P : AV → AH → Prop} {E : Str → List (Str × AV) → AH → Prop} {G : Env}
@[simp] theorem v_nm (n : Nat) (a : AV) {P : Env → AH → Prop} : wpR (gNm n a G M) P E = P (G.set n (some a)) M := byrfl rfl
@[simp] theorem v_addI (i j : Int) : gAdd (.int i) (.int j) M = .ok (.int (i + j)) M := byrfl rfl
@[simp] theorem v_addS (x y : Str) : gAdd (.str x) (.str y) M = sized (x.length + y.length) (.ok (.str (x ++ y)) M) := byrfl rfl
@[simp] theorem v_addT (xs ys : List AV) : gAdd (.tup xs) (.tup ys) M = sized (xs.length + ys.length) (.ok (.tup (xs ++ ys)) M) := byrfl rfl
@[simp] theorem v_addL (xs ys : List AV) : gAdd (.lst xs) (.lst ys) M = sized (xs.length + ys.length) (.ok (.lst (xs ++ ys)) M) := byrfl rfl
@[simp] theorem v_sub (i j : Int) : gSub (.int i) (.int j) M = .ok (.int (i - j)) M := byrfl rfl
@[simp] theorem v_neg (i : Int) : gNeg (.int i) M = .ok (.int (-i)) M := byrfl rfl
@[simp] theorem w_mul (i j : Int) : wpR (gMul (.int i) (.int j) M) P E = (mulOk i j ∧ P (.int (i * j)) M) := by
  unfold gMul
  by_cases h : mulOk i j <;> simp [h]
@[simp] theorem w_div (i j : Int) : wpR (gDiv (.int i) (.int j) M) P E = ((j ≠ 0 ∧ j.natAbs < 1073741824) ∧ P (.int (i.fdiv j)) M) := by
  show wpR (if j ≠ 0 ∧ j.natAbs < 1073741824 then Res.ok (AV.int (i.fdiv j)) M else .stuck) P E = _
  by_cases h : j ≠ 0 ∧ j.natAbs < 1073741824
  · rw [if_pos h]
    simp [h]
  · rw [if_neg h]
    simp only [wpR_stuck, h, false_and]
@[simp] theorem w_mod (i j : Int) : wpR (gMod (.int i) (.int j) M) P E = (j ≠ 0 ∧ P (.int (i.fmod j)) M) := by
  unfold gMod
  by_cases h : j ≠ 0 <;> simp [h]
@[simp] theorem w_pow (i j : Int) : wpR (gPow (.int i) (.int j) M) P E = ((0 ≤ j ∧ j ≤ 1000000 ∧ i.natAbs < 2 ^ 64) ∧ P (.int (i ^ j.toNat)) M) := by
  show wpR (if 0 ≤ j ∧ j ≤ 1000000 ∧ i.natAbs < 2 ^ 64 then Res.ok (AV.int (i ^ j.toNat)) M else .stuck) P E = _
  by_cases h : 0 ≤ j ∧ j ≤ 1000000 ∧ i.natAbs < 2 ^ 64
  · rw [if_pos h]
    simp [h]
  · rw [if_neg h]
    simp only [wpR_stuck, h, false_and]
@[simp] theorem v_ordI (f : Int → Int → Bool) (g : List Nat → List Nat → Bool) (i j : Int) : gOrd f g (.int i) (.int j) M = .ok (.bl (f i j)) M := byrfl rfl
theorem v_eqI (i j : Int) : gEq (.int i) (.int j) M = .ok (.bl (decide (i = j))) M := by
  simp only [gEq, top, plain, Bool.and_self, if_true, aeq, toD, PyData.eqv]
  rfl
theorem v_neI (i j : Int) : gNe (.int i) (.int j) M = .ok (.bl (!decide (i = j))) M := by
  simp only [gNe, top, plain, Bool.and_self, if_true, aeq, toD, PyData.eqv]
  rfl
theorem v_eqS (i j : Str) : gEq (.str i) (.str j) M = .ok (.bl (decide (i = j))) M := by
  simp only [gEq, top, plain, Bool.and_self, if_true, aeq, toD, PyData.eqv]
  congr 2
theorem v_neS (i j : Str) : gNe (.str i) (.str j) M = .ok (.bl (!decide (i = j))) M := by
  simp only [gNe, top, plain, Bool.and_self, if_true, aeq, toD, PyData.eqv]
  congr 2
theorem eqv_nil : ∀ xs : List AV, PyData.eqvAll (toDs xs) [] = xs.isEmpty
  | [] => by simp [toDs, PyData.eqvAll]
  | a :: r => by simp [toDs, PyData.eqvAll]
theorem v_eqL0 {xs : List AV} (h : plain 60 (.lst xs) = true) : gEq (.lst xs) (.lst []) M = .ok (.bl xs.isEmpty) M := by
  have e : plain 60 (.lst []) = true := rfl
  simp only [gEq, top, h, e, Bool.and_self, if_true, aeq, toD, PyData.eqv, toDs, eqv_nil]
theorem v_neL0 {xs : List AV} (h : plain 60 (.lst xs) = true) : gNe (.lst xs) (.lst []) M = .ok (.bl (!xs.isEmpty)) M := by
  have e : plain 60 (.lst []) = true := rfl
  simp only [gNe, top, h, e, Bool.and_self, if_true, aeq, toD, PyData.eqv, toDs, eqv_nil]
@[simp] theorem v_lenS (z : Str) : gLen [.str z] M = sized z.length (.ok (.int z.length) M) := byrfl rfl
@[simp] theorem v_lenL (xs : List AV) : gLen [.lst xs] M = .ok (.int xs.length) M := byrfl rfl
@[simp] theorem v_lenF (xs : List AV) : gLen [.fro xs] M = .ok (.int xs.length) M := byrfl rfl
@[simp] theorem v_lenT (xs : List AV) : gLen [.tup xs] M = .ok (.int xs.length) M := byrfl rfl
@[simp] theorem v_truB (b : Bool) : aTru (.bl b) M = .ok b M := byrfl rfl
@[simp] theorem v_seqS (x : Str) : seqOf M (.str x) = some ⟨x.cps.toList.map fun c => .str ⟨#[c]⟩, none⟩ := byrfl rfl
@[simp] theorem v_seqT (xs : List AV) : seqOf M (.tup xs) = some ⟨xs, none⟩ := byrfl rfl
@[simp] theorem v_seqL (xs : List AV) : seqOf M (.lst xs) = some ⟨xs, none⟩ := byrfl rfl
@[simp] theorem v_seqF (xs : List AV) : seqOf M (.fro xs) = some ⟨xs, none⟩ := byrfl rfl
@[simp] theorem v_listT (xs : List AV) : gListV [.tup xs] M = .ok (.lst xs) M := byrfl rfl
@[simp] theorem v_listL (xs : List AV) : gListV [.lst xs] M = .ok (.lst xs) M := byrfl rfl
@[simp] theorem v_tupleL (xs : List AV) : gTuple [.lst xs] M = .ok (.tup xs) M := byrfl rfl
@[simp] theorem v_tupleT (xs : List AV) : gTuple [.tup xs] M = .ok (.tup xs) M := byrfl rfl
@[simp] theorem v_tupD (xs : List AV) : gTupD xs M = sized xs.length (.ok (.tup xs) M) := byrfl rfl
@[simp] theorem v_lstD (xs : List AV) : gLstD xs M = sized xs.length (.ok (.lst xs) M) := byrfl rfl
@[simp] theorem v_lstR (xs : List AV) : gLstR xs M = sized xs.length (.ok (.ref M.objs.length) ⟨M.objs ++ [.lst xs], M.fz⟩) := byrfl rfl
@[simp] theorem v_slT (xs : List AV) (l h : Option Int) : gSl (.tup xs) l h M = .ok (.tup (cutA xs l h)) M := byrfl rfl
@[simp] theorem v_slL (xs : List AV) (l h : Option Int) : gSl (.lst xs) l h M = .ok (.lst (cutA xs l h)) M := byrfl rfl
@[simp] theorem v_slF (xs : List AV) (l h : Option Int) : gSl (.fro xs) l h M = .ok (.lst (cutA xs l h)) M := byrfl rfl
@[simp] theorem w_slS (z : Str) (l h : Option Int) : wpR (gSl (.str z) l h M) P E = (z.length ≤ 16777216 ∧ P (.str (cutS z l h)) M) := by
  unfold gSl
  by_cases q : z.length ≤ 16777216 <;> simp [q]
theorem w_ixL {xs : List AV} {i : Int} : wpR (gIx (.lst xs) (.int i) M) P E = ∃ v, atI xs i = some v ∧ P v M := by
  show wpR (match atI xs i with | some v => Res.ok v M | none => .stuck) P E = _
  cases atI xs i <;> simp
theorem w_ixT {xs : List AV} {i : Int} : wpR (gIx (.tup xs) (.int i) M) P E = ∃ v, atI xs i = some v ∧ P v M := by
  show wpR (match atI xs i with | some v => Res.ok v M | none => .stuck) P E = _
  cases atI xs i <;> simp
theorem w_ixS {z : Str} {i : Int} (hz : z.length ≤ 16777216) : wpR (gIx (.str z) (.int i) M) P E = ∃ c, atI z.cps.toList i = some c ∧ P (.str ⟨#[c]⟩) M := by
  unfold gIx ixA
  simp only [hz, if_true]
  cases atI z.cps.toList i <;> simp
theorem at_nn {α : Type} {xs : List α} {i : Int} (h0 : 0 ≤ i) (h1 : i < xs.length) : atI xs i = some (xs[i.toNat]'(by omega)) := by
  unfold atI ixN
  simp only [h0, h1, if_true, Option.bind_some]
  rw [List.getElem?_eq_getElem]
/-- at a place that is there stands one of the list -/
theorem at_mem {α : Type} {xs : List α} {i : Int} (h0 : 0 ≤ i) (h1 : i < xs.length) : ∃ v, atI xs i = some v ∧ v ∈ xs := ⟨_, at_nn h0 h1, List.getElem_mem _⟩
end

/-! ### what can be shown -/
theorem plain_mono : ∀ (d e : Nat) (a : AV), d ≤ e → plain d a = true → plain e a = true
  | _, _, .non, _, _ => by simp [plain]
  | _, _, .bl _, _, _ => by simp [plain]
  | _, _, .int _, _, _ => by simp [plain]
  | _, _, .str _, _, _ => by simp [plain]
  | 0, _, .tup _, _, h => by simp [plain] at h
  | 0, _, .lst _, _, h => by simp [plain] at h
  | 0, _, .fro _, _, h => by simp [plain] at h
  | 0, _, .tuc _, _, h => by simp [plain] at h
  | d + 1, 0, _, h, _ => by omega
  | d + 1, e + 1, .tup xs, he, h => by
    simp only [plain, List.all_eq_true] at h ⊢
    exact fun x hx => plain_mono d e x (by omega) (h x hx)
  | d + 1, e + 1, .lst xs, he, h => by
    simp only [plain, List.all_eq_true] at h ⊢
    exact fun x hx => plain_mono d e x (by omega) (h x hx)
  | d + 1, e + 1, .fro xs, he, h => by
    simp only [plain, List.all_eq_true] at h ⊢
    exact fun x hx => plain_mono d e x (by omega) (h x hx)
  | d + 1, e + 1, .tuc xs, he, h => by
    simp only [plain, List.all_eq_true] at h ⊢
    exact fun x hx => plain_mono d e x (by omega) (h x hx)
  | d + 1, e + 1, .dK _, _, h => by simp [plain] at h
  | d + 1, e + 1, .dT _, _, h => by simp [plain] at h
  | d + 1, e + 1, .ref _, _, h => by simp [plain] at h
  | 0, _, .dK _, _, h => by simp [plain] at h
  | 0, _, .dT _, _, h => by simp [plain] at h
  | 0, _, .ref _, _, h => by simp [plain] at h
structure Sh (d n : Nat) (a : AV) : Prop where
  pl : plain d a = true
  ok : (toD a).showable = true
  le : (shw a).length ≤ n
theorem Sh.mono {d n e m : Nat} {a : AV} (h : Sh d n a) (hd : d ≤ e) (hn : n ≤ m) : Sh e m a := ⟨plain_mono d e a hd h.pl, h.ok, Nat.le_trans h.le hn⟩
theorem sh_non : Sh 0 4 .non := ⟨rfl, rfl, by simp only [shw, toD, PyData.shown_none]; decide⟩
theorem sh_bl (b : Bool) : Sh 0 5 (.bl b) := ⟨rfl, rfl, by simp only [shw, toD, PyData.shown_bool]; cases b <;> decide⟩
theorem pow10_2 (k : Nat) (h : k ≤ 500) : 10 ^ k < 2 ^ 1920 := Nat.lt_of_le_of_lt (Nat.pow_le_pow_right (by decide) h) (by decide +kernel)
theorem sh_int {i : Int} (k : Nat) (h : i.natAbs < 10 ^ k) (h0 : 0 < k) (h1 : k ≤ 500) : Sh 0 (k + 1) (.int i) := by
  refine ⟨rfl, ?_, ?_⟩
  · simp only [toD, PyData.showable, decide_eq_true_eq]
    by_cases z : i.natAbs = 0
    · rw [z]
      decide
    · exact (Nat.log2_lt z).mpr (Nat.lt_trans h (pow10_2 k h1))
  · simp only [shw, toD, PyData.shown_int]
    have e := int_text_length_le10 (a := i) h0 h
    rw [ofString_length]
    exact e
theorem sh_str {x : Str} (h : ∀ c ∈ x.cps.toList, c < 16 ^ 8) : Sh 0 (10 * x.length + 2) (.str x) := by
  refine ⟨rfl, rfl, ?_⟩
  simp only [shw, toD, PyData.shown_str]
  exact reprText_len x h
theorem toDs_map : ∀ xs : List AV, toDs xs = xs.map toD
  | [] => by simp only [toDs, List.map_nil]
  | a :: r => by simp only [toDs, List.map_cons, toDs_map r]
theorem showableAll_of : ∀ xs : List PyData, (∀ x ∈ xs, x.showable = true) → PyData.showableAll xs = true
  | [], _ => by simp only [PyData.showableAll]
  | a :: r, h => by
    simp only [PyData.showableAll, Bool.and_eq_true]
    exact ⟨h a (by simp), showableAll_of r fun x hx => h x (by simp [hx])⟩
theorem shownAll_map : ∀ xs : List PyData, PyData.shownAll xs = xs.map PyData.shown
  | [] => by simp only [PyData.shownAll, List.map_nil]
  | a :: r => by simp only [PyData.shownAll, List.map_cons, shownAll_map r]
theorem sum_le {α : Type} (f : α → Nat) (n : Nat) : ∀ xs : List α, (∀ x ∈ xs, f x ≤ n) → (xs.map f).sum ≤ n * xs.length
  | [], _ => by simp
  | a :: r, h => by
    have h1 := h a (by simp)
    have h2 := sum_le f n r fun x hx => h x (by simp [hx])
    simp only [List.map_cons, List.sum_cons, List.length_cons, Nat.mul_succ]
    omega
theorem sh_tup {d n : Nat} {xs : List AV} (h : ∀ a ∈ xs, Sh d n a) : Sh (d + 1) ((n + 2) * xs.length + 3) (.tup xs) := by
  refine ⟨?_, ?_, ?_⟩
  · simp only [plain, List.all_eq_true]
    exact fun x hx => (h x hx).pl
  · simp only [toD, PyData.showable]
    refine showableAll_of _ fun x hx => ?_
    rw [toDs_map] at hx
    obtain ⟨a, ha, rfl⟩ := List.mem_map.mp hx
    exact (h a ha).ok
  · simp only [shw, toD, PyData.shown, shownAll_map, toDs_map, List.map_map]
    refine Nat.le_trans (tupleText_len_le _) ?_
    have := sum_le (fun a => (shw a).length) n xs fun x hx => (h x hx).le
    simp only [List.map_map, List.length_map]
    have e : (List.map ((fun x => x.length) ∘ PyData.shown ∘ toD) xs).sum = (xs.map fun a => (shw a).length).sum := rfl
    rw [e, Nat.add_mul]
    omega
theorem sh_lst {d n : Nat} {xs : List AV} (h : ∀ a ∈ xs, Sh d n a) : Sh (d + 1) ((n + 2) * xs.length + 3) (.lst xs) := by
  refine ⟨?_, ?_, ?_⟩
  · simp only [plain, List.all_eq_true]
    exact fun x hx => (h x hx).pl
  · simp only [toD, PyData.showable]
    refine showableAll_of _ fun x hx => ?_
    rw [toDs_map] at hx
    obtain ⟨a, ha, rfl⟩ := List.mem_map.mp hx
    exact (h a ha).ok
  · simp only [shw, toD, PyData.shown, shownAll_map, toDs_map, List.map_map]
    refine Nat.le_trans (listText_len_le _) ?_
    have := sum_le (fun a => (shw a).length) n xs fun x hx => (h x hx).le
    simp only [List.map_map, List.length_map]
    have e : (List.map ((fun x => x.length) ∘ PyData.shown ∘ toD) xs).sum = (xs.map fun a => (shw a).length).sum := rfl
    rw [e, Nat.add_mul]
    omega
theorem plain_top {d : Nat} {a : AV} (M : AH) (h : plain d a = true) : top M a = a := by
  cases a <;> first | rfl | (cases d <;> simp [plain] at h)
theorem v_repr {d n : Nat} {a : AV} {M : AH} (h : Sh d n a) (hd : d ≤ 60) (hn : n ≤ 16777216) : gRepr [a] M = .ok (.str (shw a)) M := by
  unfold gRepr
  simp only [plain_top M h.pl]
  rw [if_pos ⟨plain_mono d 60 a hd h.pl, h.ok, Nat.le_trans h.le hn⟩]
end Px

/-! Px3: the feed and its draws. -/
namespace Px
open PySem hiding Env plain
open L2 Mx
abbrev fdK (cs : List Int) (a l n : Int) : List (Key × AV) := [(.inr "cells", .lst (cs.map .int)), (.inr "at", .int a), (.inr "left", .int l), (.inr "count", .int n)]
def fd (cs : List Int) (a l n : Int) : AV := .dK (fdK cs a l n)
def st (cs : List Int) (a l n : Int) (rest : List AV) (fz : List Nat) : AH := ⟨fd cs a l n :: rest, fz⟩
def Fs (rest : List AV) (fz : List Nat) (M : AH) : Prop := ∃ cs a l n, M = st cs a l n rest fz
theorem fdk_cells (cs : List Int) (a l n : Int) : getK (fdK cs a l n) (.inr ("cells" : Str)) = some (.lst (cs.map .int)) := by kernel_rfl
theorem fdk_at (cs : List Int) (a l n : Int) : getK (fdK cs a l n) (.inr ("at" : Str)) = some (.int a) := by kernel_rfl
theorem fdk_left (cs : List Int) (a l n : Int) : getK (fdK cs a l n) (.inr ("left" : Str)) = some (.int l) := by kernel_rfl
theorem fdk_count (cs : List Int) (a l n : Int) : getK (fdK cs a l n) (.inr ("count" : Str)) = some (.int n) := by kernel_rfl
theorem fdk_sat (cs : List Int) (a l n v : Int) : setK (fdK cs a l n) (.inr ("at" : Str)) (.int v) = fdK cs v l n := by kernel_rfl
theorem fdk_sleft (cs : List Int) (a l n v : Int) : setK (fdK cs a l n) (.inr ("left" : Str)) (.int v) = fdK cs a v n := by kernel_rfl
theorem fdk_scount (cs : List Int) (a l n v : Int) : setK (fdK cs a l n) (.inr ("count" : Str)) (.int v) = fdK cs a l v := by kernel_rfl
section
variable {cs : List Int} {a l n : Int} {rest : List AV} {fz : List Nat} {P : AV → AH → Prop} {E : Str → List (Str × AV) → AH → Prop} {G : Env}
@[simp] theorem f_cells : gIx (.ref 0) (.str "cells") (st cs a l n rest fz) = .ok (.lst (cs.map .int)) (st cs a l n rest fz) := by
  simp only [gIx, ixA, ixO, dctK, st, List.getElem?_cons_zero, fd, keyK, Option.bind_some, fdk_cells]
@[simp] theorem f_at : gIx (.ref 0) (.str "at") (st cs a l n rest fz) = .ok (.int a) (st cs a l n rest fz) := by
  simp only [gIx, ixA, ixO, dctK, st, List.getElem?_cons_zero, fd, keyK, Option.bind_some, fdk_at]
@[simp] theorem f_left : gIx (.ref 0) (.str "left") (st cs a l n rest fz) = .ok (.int l) (st cs a l n rest fz) := by
  simp only [gIx, ixA, ixO, dctK, st, List.getElem?_cons_zero, fd, keyK, Option.bind_some, fdk_left]
@[simp] theorem f_count : gIx (.ref 0) (.str "count") (st cs a l n rest fz) = .ok (.int n) (st cs a l n rest fz) := by
  simp only [gIx, ixA, ixO, dctK, st, List.getElem?_cons_zero, fd, keyK, Option.bind_some, fdk_count]
theorem f_put {mi : EM} {k : Str} {v : AV} {kvs : List (Key × AV)} {r : Env} (h0 : 0 ∉ fz) (hk : mi (some (.ref 0) :: r) (st cs a l n rest fz) = .ok (.str k) (st cs a l n rest fz)) (hs : setK (fdK cs a l n) (.inr k) v = kvs) :
    gPut (mVar 0) mi v (some (.ref 0) :: r) (st cs a l n rest fz) = .ok (some (.ref 0) :: r) ⟨.dK kvs :: rest, fz⟩ := by
  have e : mVar 0 (some (.ref 0) :: r) (st cs a l n rest fz) = .ok (.ref 0) (st cs a l n rest fz) := rfl
  simp only [gPut, e, hk, aSet]
  have e1 : (st cs a l n rest fz).objs[0]? = some (.dK (fdK cs a l n)) := rfl
  have e2 : ¬ (0 ∈ (st cs a l n rest fz).fz ∨ ¬ (fdK cs a l n).length < 16777216) := fun h => by
    rcases h with h | h
    · exact h0 h
    · exact h (by simp [fdK])
  simp only [e1]
  rw [if_neg e2]
  simp only [keyK, Option.map_some, hs]
  rfl
theorem f_putAt {v : Int} {r : Env} (h0 : 0 ∉ fz) {P : Env → AH → Prop} : wpR (gPut (mVar 0) (mC (.str "at")) (.int v) (some (.ref 0) :: r) (st cs a l n rest fz)) P E = P (some (.ref 0) :: r) (st cs v l n rest fz) := by
  rw [f_put h0 rfl (fdk_sat cs a l n v)]
  rfl
theorem f_putLeft {v : Int} {r : Env} (h0 : 0 ∉ fz) {P : Env → AH → Prop} : wpR (gPut (mVar 0) (mC (.str "left")) (.int v) (some (.ref 0) :: r) (st cs a l n rest fz)) P E = P (some (.ref 0) :: r) (st cs a v n rest fz) := by
  rw [f_put h0 rfl (fdk_sleft cs a l n v)]
  rfl
theorem f_putCount {v : Int} {r : Env} (h0 : 0 ∉ fz) {P : Env → AH → Prop} : wpR (gPut (mVar 0) (mC (.str "count")) (.int v) (some (.ref 0) :: r) (st cs a l n rest fz)) P E = P (some (.ref 0) :: r) (st cs a l v rest fz) := by
  rw [f_put h0 rfl (fdk_scount cs a l n v)]
  rfl
end
theorem plain_ints (cs : List Int) : plain 60 (.lst (cs.map .int)) = true := by
  simp only [plain, List.all_map, List.all_eq_true]
  intro x _
  rfl
theorem cl_fd (m : Nat) (cs : List Int) (a l n : Int) : cl m (fd cs a l n) = true := by
  have e : cls m (cs.map .int) = true := plain_cls m 60 _ fun x hx => by
    obtain ⟨i, _, rfl⟩ := List.mem_map.mp hx
    rfl
  simp only [fd, cl, clk, e, Bool.and_true]

/-! ### a def that draws -/
theorem Fs.len {rest : List AV} {fz : List Nat} {M : AH} (h : Fs rest fz M) : M.objs.length = rest.length + 1 := by
  obtain ⟨cs, a, l, n, rfl⟩ := h
  rfl
theorem wp_gcF {m : List AV → AH → Res AV} {as : List AV} {M : AH} {rest : List AV} {fz : List Nat} {P : AV → AH → Prop} {E : Str → List (Str × AV) → AH → Prop} (hM : Fs rest fz M)
    (h : wpR (m as M) (fun a M' => plain 60 a = true ∧ (∃ tmp, Fs (rest ++ tmp) fz M') ∧ ∀ M'', Fs rest fz M'' → P a M'') fun _ _ _ => False) : wpR (gc m as M) P E := by
  unfold gc
  cases q : m as M with
  | ok a M' =>
    rw [q] at h
    obtain ⟨hp, ⟨tmp, cs', a', l', n', rfl⟩, hP⟩ := h
    obtain ⟨cs, a0, l, n, rfl⟩ := hM
    have hl : (st cs a0 l n rest fz).objs.length = rest.length + 1 := rfl
    have hfin : fin (rest.length + 1) (st cs' a' l' n' (rest ++ tmp) fz) a = a := by cases a <;> first | rfl | (simp [plain] at hp)
    have hc : Clean (rest.length + 1) (st cs a0 l n rest fz) (st cs' a' l' n' (rest ++ tmp) fz) := by
      refine ⟨rfl, by simp [st], fun k c hk hq => ?_⟩
      cases k with
      | zero =>
        have e : c = fd cs' a' l' n' := by
          have hq : some (fd cs' a' l' n') = some c := hq
          exact (Option.some.inj hq).symm
        exact .inr (e ▸ cl_fd _ _ _ _ _)
      | succ k =>
        have hq : (rest ++ tmp)[k]? = some c := hq
        rw [List.getElem?_append_left (by omega)] at hq
        exact .inl hq
    rw [hl]
    simp only [hfin, hc, plain_cl _ _ _ hp, and_self, if_true, wpR_ok]
    refine hP _ ⟨cs', a', l', n', ?_⟩
    simp only [AH.cut, st, List.take_succ_cons, List.take_left']
  | exc c fs M' => rw [q] at h; exact h.elim
  | stuck => rw [q] at h; exact h.elim
theorem Fs.of (cs : List Int) (a l n : Int) (rest : List AV) (fz : List Nat) : Fs rest fz (st cs a l n rest fz) := ⟨cs, a, l, n, rfl⟩
theorem Fs.ofT {rest : List AV} {fz : List Nat} {M : AH} (h : Fs rest fz M) : ∃ tmp, Fs (rest ++ tmp) fz M := ⟨[], by rwa [List.append_nil]⟩

/-! ### the draw -/
noncomputable def dr_mix : SM := mThen (mSet 5 (mBin gMod (mBin gAdd (mBin gAdd (mBin gMod (mVar 4) (mC (.int 1000000007))) (mBin gMul (mC (.int 40503)) (mBin gIx (mVar 0) (mC (.str "count"))))) (mC (.int 17))) (mC (.int 2147483629)))) (mThen (mSet 5 (mBin gMod (mBin gAdd (mBin gAdd (mBin gMul (mVar 5) (mVar 5)) (mBin gMul (mC (.int 15485863)) (mBin gIx (mVar 0) (mC (.str "count"))))) (mC (.int 1))) (mC (.int 2147483587)))) (mRet (mBin gMod (mBin gDiv (mBin gMod (mBin gAdd (mBin gMul (mVar 5) (mVar 5)) (mBin gMul (mC (.int 7)) (mVar 5))) (mC (.int 2147483549))) (mC (.int 8))) (mVar 1))))
noncomputable def dr_tail : SM := mThen (mIf (mAnd (mBl (mBin gGe (mVar 4) (mBin gPow (mC (.int 10)) (mC (.int 18))))) (mBl (mBin gLt (mVar 3) (mCall gLen (mCons (mBin gIx (mVar 0) (mC (.str "cells"))) (mNil)))))) (mThen (mAsg (gPut (mVar 0) (mC (.str "left"))) (mBin gDiv (mVar 4) (mVar 1))) (mRet (mBin gMod (mVar 4) (mVar 1)))) (mNext)) (dr_mix)
noncomputable def dr_b : SM := mThen (mAsg (gPut (mVar 0) (mC (.str "count"))) (mBin gAdd (mBin gIx (mVar 0) (mC (.str "count"))) (mC (.int 1)))) (mThen (mIf (mBl (mBin gGt (mBin gIx (mVar 0) (mC (.str "left"))) (mC (.int 0)))) (mThen (mSet 2 (mBin gMod (mBin gIx (mVar 0) (mC (.str "left"))) (mVar 1))) (mThen (mAsg (gPut (mVar 0) (mC (.str "left"))) (mBin gDiv (mBin gIx (mVar 0) (mC (.str "left"))) (mVar 1))) (mRet (mVar 2)))) (mNext)) (mThen (mSet 3 (mBin gIx (mVar 0) (mC (.str "at")))) (mThen (mAsg (gPut (mVar 0) (mC (.str "at"))) (mBin gAdd (mVar 3) (mC (.int 1)))) (mThen (mSet 4 (mIfE (mBl (mBin gNe (mBin gIx (mVar 0) (mC (.str "cells"))) (mLst (mNil)))) (mBin gIx (mBin gIx (mVar 0) (mC (.str "cells"))) (mBin gMod (mVar 3) (mCall gLen (mCons (mBin gIx (mVar 0) (mC (.str "cells"))) (mNil))))) (mC (.int 3)))) (dr_tail)))))
noncomputable def m_draw : List AV → AH → Res AV := gc (mDef 2 4 dr_b)
theorem fmod_lt {i k : Int} (h : 0 < k) : 0 ≤ i.fmod k ∧ i.fmod k < k := ⟨Int.fmod_nonneg_of_pos i h, Int.fmod_lt_of_pos i h⟩
theorem mulOk_left {i j : Int} (h : -(2 ^ 64) < i ∧ i < 2 ^ 64) : mulOk i j := .inl h
abbrev NoE : Str → List (Str × AV) → AH → Prop := fun _ _ _ => False
abbrev Small (k : Int) (a : AV) : Prop := ∃ r : Int, a = .int r ∧ 0 ≤ r ∧ r < k

/-- what is wanted behind a draw -/
abbrev drP (rest : List AV) (fz : List Nat) (k : Int) : AV → AH → Prop := fun a M' => plain 60 a = true ∧ (∃ tmp, Fs (rest ++ tmp) fz M') ∧ ∀ M'', Fs rest fz M'' → Small k a ∧ Fs rest fz M''
theorem drP_ok {rest : List AV} {fz : List Nat} {k i : Int} (k0 : 0 < k) (cs : List Int) (a l n : Int) : drP rest fz k (.int (i.fmod k)) (st cs a l n rest fz) := ⟨rfl, (Fs.of _ _ _ _ _ _).ofT, fun M'' hF' => ⟨⟨_, rfl, (fmod_lt k0).1, (fmod_lt k0).2⟩, hF'⟩⟩
theorem lt31 {x : Int} (h : 0 ≤ x ∧ x < 2147483648) : -(2 ^ 64) < x ∧ x < 2 ^ 64 := by
  have e : (2147483648 : Int) < 2 ^ 64 := by decide
  have e2 : -(2 ^ 64) < (0 : Int) := by decide
  exact ⟨Int.lt_of_lt_of_le e2 h.1, Int.lt_trans h.2 e⟩
theorem w_mix {cs : List Int} {a l n k cell : Int} {rest : List AV} {fz : List Nat} {o2 o3 o5 : Option AV} (k0 : 0 < k) (k1 : k < 1073741824) :
    wpS (dr_mix [some (.ref 0), some (.int k), o2, o3, some (.int cell), o5] (st cs a l n rest fz)) (defD (drP rest fz k) NoE) := by
  unfold dr_mix
  simp only [wpS_then, wpS_set, w_bin, w_var4, w_var0, w_var1, w_var5, w_c, w_mod, w_mul, f_count, wpR_ok, v_addI, List.set_cons_succ, List.set_cons_zero, wpS_mret, w_div, defD_rt]
  have q1 := fmod_lt (i := cell.fmod 1000000007 + 40503 * n + 17) (k := 2147483629) (by omega)
  generalize (cell.fmod 1000000007 + 40503 * n + 17).fmod 2147483629 = x at q1 ⊢
  have q2 := fmod_lt (i := x * x + 15485863 * n + 1) (k := 2147483587) (by omega)
  generalize (x * x + 15485863 * n + 1).fmod 2147483587 = y at q2 ⊢
  refine ⟨by omega, mulOk_left (lt31 (by omega)), by omega, mulOk_left (lt31 (by omega)), mulOk_left (lt31 (by omega)), by omega, mulOk_left (lt31 (by omega)), mulOk_left (lt31 (by omega)), by omega, ⟨by omega, by omega⟩, by omega, ?_⟩
  exact drP_ok k0 _ _ _ _
theorem w_tail {cs : List Int} {a l n k cell at' : Int} {rest : List AV} {fz : List Nat} {o2 o5 : Option AV} (h0 : 0 ∉ fz) (k0 : 0 < k) (k1 : k < 1073741824) :
    wpS (dr_tail [some (.ref 0), some (.int k), o2, some (.int at'), some (.int cell), o5] (st cs a l n rest fz)) (defD (drP rest fz k) NoE) := by
  have kz : k ≠ 0 := by omega
  have ka : k.natAbs < 1073741824 := by omega
  unfold dr_tail
  simp only [wpS_then, wpS_if, w_and, w_bl, w_bin, w_var4, w_c, w_pow, wpR_ok, v_ordI]
  refine ⟨⟨by omega, by omega, by decide⟩, _, rfl, ?_⟩
  split
  · simp only [w_bin, w_var3, w_call, w_cons, w_nil, w_var0, w_c, f_cells, wpR_ok, v_lenL, v_ordI, w_bl]
    refine ⟨_, rfl, ?_⟩
    split
    · simp only [wpS_then, wpS_asg, w_bin, w_var4, w_var1, w_div, f_putLeft h0, wpS_mret, w_mod, defD_rt]
      exact ⟨⟨kz, ka⟩, kz, drP_ok k0 _ _ _ _⟩
    · simp only [wpS_mnext]
      exact w_mix k0 k1
  · simp only [Bool.false_eq_true, if_false, wpS_mnext]
    exact w_mix k0 k1
theorem w_draw {rest : List AV} {fz : List Nat} {M : AH} {E : Str → List (Str × AV) → AH → Prop} (h0 : 0 ∉ fz) (hM : Fs rest fz M) {k : Int} (k0 : 0 < k) (k1 : k < 1073741824) :
    wpR (m_draw [.ref 0, .int k] M) (fun x M' => Small k x ∧ Fs rest fz M') E := by
  refine wp_gcF hM ?_
  obtain ⟨cs, a, l, n, rfl⟩ := hM
  have kz : k ≠ 0 := by omega
  have ka : k.natAbs < 1073741824 := by omega
  refine wp_def rfl ?_
  unfold dr_b
  simp only [List.map_cons, List.map_nil, List.cons_append, List.nil_append, List.replicate, wpS_then, wpS_asg, w_bin, w_var0, w_c, f_count, wpR_ok, v_addI, f_putCount h0, wpS_if, w_bl, f_left, v_ordI, wpS_set, w_var1, w_mod]
  refine ⟨_, rfl, ?_⟩
  split
  · simp only [List.set_cons_succ, List.set_cons_zero, f_left, wpR_ok, w_div, w_mod, wpS_asg, w_bin, w_var0, w_var1, w_c, f_putLeft h0, wpS_mret, w_var2, defD_rt, wpS_then]
    exact ⟨kz, ⟨kz, ka⟩, drP_ok k0 _ _ _ _⟩
  · simp only [wpS_mnext, wpS_then, wpS_set, wpS_asg, w_bin, w_var0, w_c, f_at, wpR_ok, List.set_cons_succ, List.set_cons_zero, w_var3, v_addI, f_putAt h0, w_ifE, w_bl, f_cells, w_call, w_nil, w_cons, v_lstD, wpR_sized, v_neL0 (plain_ints cs), v_lenL, w_mod]
    refine ⟨Nat.zero_le _, _, rfl, ?_⟩
    split
    · rename_i hc
      have hne : cs ≠ [] := by
        intro z
        subst z
        simp at hc
      have hl : (0 : Int) < (cs.map AV.int).length := by
        rw [List.length_map]
        have := List.length_pos_iff.mpr hne
        omega
      obtain ⟨v, hv, hm⟩ := at_mem (xs := cs.map AV.int) (fmod_lt (i := a) hl).1 (fmod_lt (i := a) hl).2
      obtain ⟨cell, _, rfl⟩ := List.mem_map.mp hm
      simp only [w_ixL, hv]
      exact ⟨by omega, _, rfl, w_tail h0 k0 k1⟩
    · exact w_tail h0 k0 k1
theorem d_draw {rest : List AV} {fz : List Nat} {M : AH} {P : AV → AH → Prop} {E : Str → List (Str × AV) → AH → Prop} (h0 : 0 ∉ fz) (hM : Fs rest fz M) {k : Int} (k0 : 0 < k) (k1 : k < 1073741824)
    (q : ∀ r M', 0 ≤ r → r < k → Fs rest fz M' → P (.int r) M') : wpR (m_draw [.ref 0, .int k] M) P E :=
  (w_draw (E := E) h0 hM k0 k1).imp (fun _ M' ⟨⟨r, e, r0, r1⟩, h⟩ => e ▸ q r M' r0 r1 h) fun _ _ _ h => h
end Px

/-! Px4: comprehensions that look only, texts and their signs. -/
namespace Px
open PySem hiding Env plain
open L2 Mx StrLaws
theorem lcl_map {α : Type} {l0 : List AV} {t : TMt} {c : BM} {el : EM} {G : Env} {M : AH} (e : α → AV) (p : α → Bool) (f : α → AV) :
    ∀ (xs : List α) (acc : List AV), acc.length + xs.length ≤ 16777216 →
    (∀ x ∈ xs, ∃ G1, t (e x) G M = .ok G1 M ∧ c G1 M = .ok (p x) M ∧ (p x = true → el G1 M = .ok (f x) M)) →
    lcl ⟨l0, none⟩ t c el G (xs.map e) acc M = .ok (acc ++ (xs.filter p).map f) M
  | [], acc, _, _ => by simp [lcl_nil]
  | a :: r, acc, hn, h => by
    obtain ⟨G1, h1, h2, h3⟩ := h a (by simp)
    simp only [List.length_cons] at hn
    simp only [List.map_cons, lcl_cons, h1, h2]
    by_cases hp : p a = true
    · simp only [hp, if_true, h3 hp]
      rw [lcl_map e p f r _ (by simp; omega) fun b hb => h b (by simp [hb])]
      unfold sized
      rw [if_pos (by omega)]
      simp [hp]
    · simp only [hp, if_false]
      rw [lcl_map e p f r _ (by omega) fun b hb => h b (by simp [hb])]
      simp [hp]
abbrev chrA (c : Nat) : AV := .str ⟨#[c]⟩
/-- all the signs of a text, looked at -/
theorem lcl_signs {l0 : List AV} {k : Nat} {el : EM} {G : Env} {M : AH} (f : Nat → Bool) (x : Str) (hx : x.length ≤ 16777216) (h : ∀ c, el (G.set k (some (chrA c))) M = .ok (.bl (f c)) M) :
    lcl ⟨l0, none⟩ (gNm k) (fun _ M => .ok true M) el G (x.cps.toList.map chrA) [] M = .ok (x.cps.toList.map fun c => .bl (f c)) M := by
  have := lcl_map (l0 := l0) (t := gNm k) (c := fun _ M => .ok true M) (el := el) (G := G) (M := M) chrA (fun _ => true) (fun c => .bl (f c)) x.cps.toList [] (by simp only [List.length_nil, Nat.zero_add, Array.length_toList]; exact hx) fun c _ => ⟨_, rfl, rfl, fun _ => h c⟩
  rwa [List.nil_append, List.filter_eq_self.mpr fun _ _ => rfl] at this
theorem boolsOf_map {α : Type} (f : α → Bool) : ∀ l : List α, boolsOf (l.map fun c => .bl (f c)) = some (l.map f)
  | [] => rfl
  | c :: r => by simp [boolsOf, boolsOf_map f r]
theorem v_all {α : Type} (f : α → Bool) (l : List α) {M : AH} : gAll [.lst (l.map fun c => .bl (f c))] M = .ok (.bl (l.all f)) M := by
  simp only [gAll, lstR, Option.bind_some, boolsOf_map]
  congr 2
  simp [List.all_map, Function.comp_def]
theorem v_any {α : Type} (f : α → Bool) (l : List α) {M : AH} : gAny [.lst (l.map fun c => .bl (f c))] M = .ok (.bl (l.any f)) M := by
  simp only [gAny, lstR, Option.bind_some, boolsOf_map]
  congr 2
  simp [List.any_map, Function.comp_def]
theorem v_inS (neg : Bool) (c : Nat) (z : Str) {M : AH} : gIn neg (chrA c) (.str z) M = .ok (.bl (if neg then !decide (c ∈ z.cps.toList) else decide (c ∈ z.cps.toList))) M := rfl
def low (c : Nat) : Bool := decide (97 ≤ c) && decide (c ≤ 122)
theorem abc_low (c : Nat) : decide (c ∈ (("abcdefghijklmnopqrstuvwxyz" : Str)).cps.toList) = low c := by
  have e : (("abcdefghijklmnopqrstuvwxyz" : Str)).cps.toList = [97, 98, 99, 100, 101, 102, 103, 104, 105, 106, 107, 108, 109, 110, 111, 112, 113, 114, 115, 116, 117, 118, 119, 120, 121, 122] := by decide +kernel
  unfold low
  rw [← Bool.decide_and]
  apply decide_eq_decide.mpr
  simp only [e, List.mem_cons, List.not_mem_nil, or_false]
  omega
theorem v_abc (c : Nat) {M : AH} : gIn false (chrA c) (.str "abcdefghijklmnopqrstuvwxyz") M = .ok (.bl (low c)) M := by
  rw [v_inS, abc_low]
  rfl
theorem v_ord (c : Nat) {M : AH} : gOrd1 [chrA c] M = .ok (.int c) M := rfl
theorem v_eqC (c : Nat) (z : Nat) {M : AH} : gEq (chrA c) (chrA z) M = .ok (.bl (decide (c = z))) M := by
  rw [v_eqS]
  congr 2
  apply decide_eq_decide.mpr
  simp
end Px

/-! Px5: texts of so many signs of a kind. -/
namespace Px
open PySem hiding Env plain
open L2 Mx StrLaws
structure Tx (P : Nat → Prop) (n : Nat) (x : Str) : Prop where
  len : x.length ≤ n
  all : ∀ c ∈ x.cps.toList, P c
abbrev AnyC (c : Nat) : Prop := c < 16 ^ 8
theorem Tx.mono {P Q : Nat → Prop} {n m : Nat} {x : Str} (h : Tx P n x) (hn : n ≤ m) (hp : ∀ c, P c → Q c) : Tx Q m x := ⟨Nat.le_trans h.len hn, fun c hc => hp c (h.all c hc)⟩
theorem tx_app {P : Nat → Prop} {n m : Nat} {x y : Str} (h : Tx P n x) (g : Tx P m y) : Tx P (n + m) (x ++ y) := by
  have := h.len
  have := g.len
  refine ⟨by rw [strLen_append]; omega, fun c hc => ?_⟩
  have hc : c ∈ (x.cps ++ y.cps).toList := hc
  rw [Array.toList_append] at hc
  rcases List.mem_append.mp hc with z | z
  · exact h.all c z
  · exact g.all c z
theorem tx_chr {P : Nat → Prop} {c : Nat} (h : P c) : Tx P 1 ⟨#[c]⟩ := ⟨Nat.le_refl _, fun d hd => by
  have e : d = c := by simpa using hd
  exact e ▸ h⟩
theorem cut_mem {z : Str} {lo hi : Option Int} {c : Nat} (h : c ∈ (cutS z lo hi).cps.toList) : c ∈ z.cps.toList := List.mem_of_mem_drop (List.mem_of_mem_take h)
theorem cut_len (z : Str) (lo hi : Option Int) : (cutS z lo hi).length = HT.sIx z.length z.length hi - HT.sIx z.length 0 lo := by
  have h2 : HT.sIx z.length z.length hi ≤ z.length := HT.sIx_le _ _ (Nat.le_refl _) _
  show ((z.cps.toList.drop (HT.sIx z.length 0 lo)).take (HT.sIx z.length z.length hi - HT.sIx z.length 0 lo)).toArray.size = _
  rw [List.size_toArray, List.length_take, List.length_drop]
  show min _ (z.length - _) = _
  omega
theorem cut_le (z : Str) (lo hi : Option Int) : (cutS z lo hi).length ≤ z.length := by
  rw [cut_len]
  have h2 : HT.sIx z.length z.length hi ≤ z.length := HT.sIx_le _ _ (Nat.le_refl _) _
  omega
theorem tx_cut {P : Nat → Prop} {n : Nat} {x : Str} (h : Tx P n x) (lo hi : Option Int) : Tx P n (cutS x lo hi) := ⟨Nat.le_trans (cut_le _ _ _) h.len, fun c hc => h.all c (cut_mem hc)⟩
theorem cut_hi (z : Str) (k : Nat) : (cutS z none (some (k : Int))).length ≤ k := by
  rw [cut_len, HT.sIx_nat]
  omega
theorem tx_cutTo {P : Nat → Prop} {n : Nat} {x : Str} (h : Tx P n x) (k : Nat) : Tx P k (cutS x none (some (k : Int))) := ⟨cut_hi _ _, fun c hc => h.all c (cut_mem hc)⟩
theorem tx_join {P : Nat → Prop} {k : Nat} : ∀ {ys : List Str}, (∀ y ∈ ys, Tx P k y) → Tx P (k * ys.length) (Str.join "" ys)
  | [], _ => ⟨by simp [Str.join, Str.empty, Str.length], fun c hc => by simp [Str.join, Str.empty] at hc⟩
  | [y], h => by
    have := h y (by simp)
    simpa [Str.join] using this
  | x :: z :: r, h => by
    have h1 := h x (by simp)
    have ih := tx_join (ys := z :: r) fun y hy => h y (by simp [hy])
    have e0 : Tx P 0 ("" : Str) := ⟨by decide, fun c hc => by
      have e : ("" : Str).cps.toList = [] := by decide
      rw [e] at hc
      cases hc⟩
    have := tx_app (tx_app h1 e0) ih
    simp only [List.length_cons, Nat.mul_succ] at this ⊢
    exact this.mono (by omega) fun _ h => h
theorem strsOf_map : ∀ ys : List Str, strsOf (ys.map .str) = some ys
  | [] => rfl
  | y :: r => by simp [strsOf, strsOf_map r]
theorem v_join {P : Nat → Prop} {k : Nat} {ys : List Str} {M : AH} (h : ∀ y ∈ ys, Tx P k y) (hl : k * ys.length ≤ 16777216) : gJoin (.str "") [.lst (ys.map .str)] M = .ok (.str (Str.join "" ys)) M := by
  have e : itemsOf M (.lst (ys.map .str)) = some (ys.map .str) := rfl
  have e0 : ("" : Str).length = 0 := by decide
  have hs := sum_le (fun y : Str => y.length) k ys fun y hy => (h y hy).len
  simp only [gJoin, e, strsOf_map]
  rw [if_pos (by rw [e0]; omega), TL.join_eq]
theorem Tx.sh {n : Nat} {x : Str} (h : Tx AnyC n x) : Sh 0 (10 * n + 2) (.str x) := by
  have := h.len
  exact (sh_str h.all).mono (Nat.le_refl _) (by omega)
/-- texts told by a list of them -/
def TxA (P : Nat → Prop) (n : Nat) (a : AV) : Prop := ∃ x, a = .str x ∧ Tx P n x
/-- a text drawn by signs -/
def Sgs (P : Nat → Prop) (k : Nat) (acc : List AV) : Prop := ∃ ys : List Str, acc = ys.map .str ∧ ∀ y ∈ ys, Tx P k y
theorem Sgs.nil {P : Nat → Prop} {k : Nat} : Sgs P k [] := ⟨[], rfl, by simp⟩
theorem Sgs.snoc {P : Nat → Prop} {k : Nat} {acc : List AV} {a : AV} (h : Sgs P k acc) (g : TxA P k a) : Sgs P k (acc ++ [a]) := by
  obtain ⟨ys, rfl, h⟩ := h
  obtain ⟨x, rfl, g⟩ := g
  refine ⟨ys ++ [x], by simp, fun y hy => ?_⟩
  rcases List.mem_append.mp hy with z | z
  · exact h y z
  · rw [List.mem_singleton.mp z]
    exact g
theorem w_join {P : Nat → Prop} {k n : Nat} {acc : List AV} {M : AH} {Q : AV → AH → Prop} {E : Str → List (Str × AV) → AH → Prop} (h : Sgs P k acc) (hl : acc.length ≤ n) (hk : k * n ≤ 16777216) (q : ∀ x, Tx P (k * n) x → Q (.str x) M) : wpR (gJoin (.str "") [.lst acc] M) Q E := by
  obtain ⟨ys, rfl, h⟩ := h
  rw [List.length_map] at hl
  have hm : k * ys.length ≤ k * n := Nat.mul_le_mul_left _ hl
  rw [v_join h (by omega), wpR_ok]
  exact q _ ((tx_join h).mono hm fun _ h => h)
/-- one sign of a text -/
theorem w_sign {P : Nat → Prop} {n : Nat} {z : Str} {i : Int} {M : AH} {Q : AV → AH → Prop} {E : Str → List (Str × AV) → AH → Prop} (h : Tx P n z) (hn : n ≤ 16777216) (h0 : 0 ≤ i) (h1 : i < z.length) (q : ∀ c, P c → Q (chrA c) M) : wpR (gIx (.str z) (.int i) M) Q E := by
  have := h.len
  rw [w_ixS (by omega)]
  obtain ⟨c, hc, hm⟩ := at_mem (xs := z.cps.toList) h0 (by rw [Array.length_toList]; exact h1)
  exact ⟨c, hc, q c (h.all c hm)⟩
/-- one of a list -/
theorem w_one {xs : List AV} {i : Int} {M : AH} {Q : AV → AH → Prop} {E : Str → List (Str × AV) → AH → Prop} (h0 : 0 ≤ i) (h1 : i < xs.length) (q : ∀ a ∈ xs, Q a M) : wpR (gIx (.lst xs) (.int i) M) Q E := by
  rw [w_ixL]
  obtain ⟨c, hc, hm⟩ := at_mem (xs := xs) h0 h1
  exact ⟨c, hc, q c hm⟩
end Px

/-! Px6: lists that are changed, behind the feed. -/
namespace Px
open PySem hiding Env plain
open L2 Mx StrLaws
section
variable {rest : List AV} {fz : List Nat} {M : AH} {P : AV → AH → Prop} {E : Str → List (Str × AV) → AH → Prop} {i : Nat} {xs : List AV}
theorem Fs.push (h : Fs rest fz M) (c : AV) : Fs (rest ++ [c]) fz ⟨M.objs ++ [c], M.fz⟩ := by
  obtain ⟨cs, a, l, n, rfl⟩ := h
  exact ⟨cs, a, l, n, rfl⟩
theorem Fs.get (h : Fs rest fz M) (i : Nat) : M.objs[i + 1]? = rest[i]? := by
  obtain ⟨cs, a, l, n, rfl⟩ := h
  rfl
theorem Fs.set (h : Fs rest fz M) (i : Nat) (c : AV) : Fs (rest.set i c) fz ⟨M.objs.set (i + 1) c, M.fz⟩ := by
  obtain ⟨cs, a, l, n, rfl⟩ := h
  exact ⟨cs, a, l, n, rfl⟩
theorem Fs.fzs (h : Fs rest fz M) : M.fz = fz := by
  obtain ⟨cs, a, l, n, rfl⟩ := h
  rfl
theorem f_tyL (h : Fs rest fz M) (hx : rest[i]? = some (.lst xs)) : tyL M (.ref (i + 1)) = true := by
  have e : M.objs[i + 1]? = some (.lst xs) := by rw [h.get, hx]
  simp [tyL, lstR, e]
theorem f_lstR (h : Fs rest fz M) (hx : rest[i]? = some (.lst xs)) : lstR M (.ref (i + 1)) = some xs := by
  have e : M.objs[i + 1]? = some (.lst xs) := by rw [h.get, hx]
  simp [lstR, e]
theorem f_append (h : Fs rest fz M) (hx : rest[i]? = some (.lst xs)) {y : AV} (hl : xs.length + 1 ≤ 16777216) (q : ∀ M', Fs (rest.set i (.lst (xs ++ [y]))) fz M' → P .non M') : wpR (gAppend (.ref (i + 1)) [y] M) P E := by
  have e : M.objs[i + 1]? = some (.lst xs) := by rw [h.get, hx]
  simp only [gAppend, e, wpR_sized, wpR_ok]
  exact ⟨hl, q _ (h.set i _)⟩
theorem f_ix (h : Fs rest fz M) (hx : rest[i]? = some (.lst xs)) {k : Int} : wpR (gIx (.ref (i + 1)) (.int k) M) P E = ∃ v, atI xs k = some v ∧ P v M := by
  have e : M.objs[i + 1]? = some (.lst xs) := by rw [h.get, hx]
  have e2 : ixA M (.ref (i + 1)) (.int k) = atI xs k := by simp [ixA, ixO, dctK, dctT, itemsOf, lstR, e]
  unfold gIx
  rw [e2]
  cases atI xs k <;> simp
theorem f_one (h : Fs rest fz M) (hx : rest[i]? = some (.lst xs)) {k : Int} (h0 : 0 ≤ k) (h1 : k < xs.length) (q : ∀ a ∈ xs, P a M) : wpR (gIx (.ref (i + 1)) (.int k) M) P E := by
  rw [f_ix h hx]
  obtain ⟨c, hc, hm⟩ := at_mem (xs := xs) h0 h1
  exact ⟨c, hc, q c hm⟩
end
/-- temporaries are forgotten -/
theorem Fs.tmp {rest : List AV} {fz : List Nat} {M : AH} {l : List AV} (h : Fs (rest ++ l) fz M) : ∃ tmp, Fs (rest ++ tmp) fz M := ⟨l, h⟩
/-! ### the feed's beginning, a law's end -/
@[simp] theorem w_kNil {G : Env} {M : AH} {P : List (Key × AV) → AH → Prop} {E : Str → List (Str × AV) → AH → Prop} : wpR (kNil G M) P E = P [] M := byrfl rfl
@[simp] theorem w_kCons {G : Env} {M : AH} {P : List (Key × AV) → AH → Prop} {E : Str → List (Str × AV) → AH → Prop} (k : Key) (m : EM) (n : KM) : wpR (kCons k m n G M) P E = wpR (m G M) (fun a M1 => wpR (n G M1) (fun r M2 => P ((k, a) :: r) M2) E) E := by
  unfold kCons
  simp
@[simp] theorem w_disp {G : Env} {M : AH} {P : AV → AH → Prop} {E : Str → List (Str × AV) → AH → Prop} (n : KM) : wpR (mDisp n G M) P E = wpR (n G M) (fun kvs M1 => kvs.length ≤ 15 ∧ P (.ref M1.objs.length) ⟨M1.objs ++ [.dK (mergeA kvs)], M1.fz⟩) E := by
  unfold mDisp
  rw [wpR_bind]
  congr 1
  funext kvs M1
  by_cases h : kvs.length ≤ 15 <;> simp [h]
noncomputable def fe_b : SM := mRet (mDisp (kCons (.inr "cells") (mCall gListV (mCons (mSl gSl (mVar 0) (mNoPart) (mPart (mC (.int 63)))) (mNil))) (kCons (.inr "at") (mC (.int 0)) (kCons (.inr "left") (mC (.int 0)) (kCons (.inr "count") (mC (.int 0)) (kNil))))))
noncomputable def m_feed : List AV → AH → Res AV := gc (mDef 1 0 fe_b)
theorem fe_merge (cs : List Int) : mergeA [(.inr ("cells" : Str), .lst (cs.map .int)), (.inr ("at" : Str), .int 0), (.inr ("left" : Str), .int 0), (.inr ("count" : Str), .int 0)] = fdK cs 0 0 0 := by kernel_rfl
theorem cutA_map (cs : List Int) (l h : Option Int) : ∃ ds : List Int, cutA (cs.map AV.int) l h = ds.map .int := by
  unfold cutA
  rw [← List.map_drop, ← List.map_take]
  exact ⟨_, rfl⟩
theorem w_feed {ns : List Int} {P : AV → AH → Prop} {E : Str → List (Str × AV) → AH → Prop} (q : ∀ M, Fs [] [] M → P (.ref 0) M) : wpR (m_feed [.fro (ns.map .int)] ⟨[], []⟩) P E := by
  obtain ⟨ds, hd⟩ := cutA_map ns none (some 63)
  have h : wpR (mDef 1 0 fe_b [.fro (ns.map .int)] ⟨[], []⟩) (fun a M => a = .ref 0 ∧ M = ⟨[.dK (fdK ds 0 0 0)], []⟩) NoE := by
    refine wp_def rfl ?_
    unfold fe_b
    simp -implicitDefEqProofs only [List.map_cons, List.map_nil, List.cons_append, List.nil_append, List.replicate, wpS_mret, w_disp, w_kCons, w_kNil, w_call, w_cons, w_nil, w_sl, w_noPart, w_part, w_var0, w_c, wpR_ok, v_slF, v_listL, hd, AV.int.injEq, exists_eq_left', defD_rt, fe_merge]
    exact ⟨by simp, rfl, trivial⟩
  unfold m_feed gc
  cases e : mDef 1 0 fe_b [.fro (ns.map .int)] ⟨[], []⟩ with
  | ok a M =>
    rw [e] at h
    obtain ⟨rfl, rfl⟩ := h
    have hc : cl 0 (fin 0 ⟨[.dK (fdK ds 0 0 0)], []⟩ (.ref 0)) = false := rfl
    simp only [List.length_nil, hc, Bool.false_eq_true, and_false, if_false, wpR_ok]
    exact q _ (Fs.of ds 0 0 0 [] [])
  | exc c fs M => rw [e] at h; exact h.elim
  | stuck => rw [e] at h; exact h.elim
theorem law_of {m : List AV → AH → Res AV} {as : List AV} {M : AH} (h : wpR (m as M) (fun a _ => a = .bl true) NoE) : ∃ M', gc m as M = .ok (.bl true) M' := by
  unfold gc
  cases e : m as M with
  | ok a M' =>
    rw [e] at h
    have h : a = .bl true := h
    subst h
    simp only
    split
    · exact ⟨_, rfl⟩
    · exact ⟨_, rfl⟩
  | exc c fs M => rw [e] at h; exact h.elim
  | stuck => rw [e] at h; exact h.elim
end Px

/-! Px7: names, rows of names, dicts by names. -/
namespace Px
open PySem hiding Env plain
open L2 Mx StrLaws PySem.W
abbrev Nm := Int × Str
def nameA (n : Nm) : AV := .tup [.int n.1, .str n.2]
def nameK (n : Nm) : List Key := [.inl n.1, .inr n.2]
theorem nameK_inj {a b : Nm} (h : nameK a = nameK b) : a = b := by
  obtain ⟨i, x⟩ := a
  obtain ⟨j, y⟩ := b
  simp only [nameK, List.cons.injEq, Sum.inl.injEq, Sum.inr.injEq, and_true] at h
  rw [h.1, h.2]
theorem nameA_inj {a b : Nm} (h : nameA a = nameA b) : a = b := by
  obtain ⟨i, x⟩ := a
  obtain ⟨j, y⟩ := b
  simp only [nameA, AV.tup.injEq, List.cons.injEq, AV.int.injEq, AV.str.injEq, and_true] at h
  rw [h.1, h.2]
theorem keyT_name (n : Nm) : keyT (nameA n) = some (nameK n) := rfl
theorem keyT_name' (n : Nm) : AV.tup ((nameK n).map keyAV) = nameA n := rfl
theorem plain_name (n : Nm) : plain 60 (nameA n) = true := rfl
theorem plain1_name (n : Nm) : plain 1 (nameA n) = true := rfl
def nlt (a b : Nm) : Bool := if a.1 = b.1 then (if a.2 = b.2 then false else decide (a.2.cps.toList < b.2.cps.toList)) else decide (a.1 < b.1)
theorem beq_dec {α : Type} [BEq α] [LawfulBEq α] [DecidableEq α] (a b : α) : ((a == b) = true) = (a = b) := by simp
theorem nlt_data (a b : Nm) : dataLt (toD (nameA a)) (toD (nameA b)) = nlt a b := by
  have h1 : alike (PyData.int a.1) (.int b.1) = true := by simp only [alike]
  have h2 : alike (PyData.str a.2) (.str b.2) = true := by simp only [alike]
  show dataLt (.tuple [.int a.1, .str a.2]) (.tuple [.int b.1, .str b.2]) = _
  rw [dataLt_pair h1 h2, dataLt_int, dataLt_str]
  simp only [PyData.eqv, beq_iff_eq]
  rfl
noncomputable def sortN (L : List Nm) : List Nm := L.mergeSort fun a b => !nlt b a
theorem sortA_names (L : List Nm) : sortA (L.map nameA) = (sortN L).map nameA := by
  unfold sortA sortN
  refine (List.map_mergeSort (f := nameA) (r := fun a b => !nlt b a) (s := dataLe false toD) fun a _ b _ => ?_).symm
  rw [← nlt_data]
  rfl
theorem sortOk_names (L : List Nm) : sortOk (L.map nameA) = true := by
  have h1 : (L.map nameA).all (plain 60) = true := by
    simp only [List.all_map, List.all_eq_true]
    exact fun n _ => plain_name n
  have h2 : likeA (L.map nameA) = true := by
    simp only [likeA, List.all_map, List.all_eq_true, Function.comp]
    intro a _ b _
    show alike (.tuple [.int a.1, .str a.2]) (.tuple [.int b.1, .str b.2]) = true
    simp [alike, alikeAll]
  have h3 : (L.map nameA).all tup1 = true := by
    simp only [List.all_map, List.all_eq_true]
    exact fun n _ => rfl
  simp [sortOk, h1, h2, h3]
theorem mem_sortN {L : List Nm} {n : Nm} : n ∈ sortN L ↔ n ∈ L := List.mem_mergeSort
theorem len_sortN (L : List Nm) : (sortN L).length = L.length := List.length_mergeSort _
/-- equal as things when equal as names -/
theorem aeq_name (a b : Nm) : aeq (nameA a) (nameA b) = decide (a = b) := by
  show PyData.eqv (.tuple [.int a.1, .str a.2]) (.tuple [.int b.1, .str b.2]) = _
  simp only [PyData.eqv, PyData.eqvAll, Bool.and_true]
  rw [Bool.eq_iff_iff]
  simp only [Bool.and_eq_true, beq_iff_eq, decide_eq_true_eq]
  constructor
  · rintro ⟨h1, h2⟩
    exact Prod.ext h1 h2
  · rintro rfl
    exact ⟨rfl, rfl⟩
theorem v_inN (neg : Bool) (n : Nm) (L : List Nm) {M : AH} : gIn neg (nameA n) (.lst (L.map nameA)) M = .ok (.bl (if neg then !decide (n ∈ L) else decide (n ∈ L))) M := by
  have h1 : (L.map nameA).all (plain 60) = true := by
    simp only [List.all_map, List.all_eq_true]
    exact fun n _ => plain_name n
  have h2 : ((L.map nameA).any fun z => aeq z (nameA n)) = decide (n ∈ L) := by
    rw [Bool.eq_iff_iff]
    simp only [List.any_map, List.any_eq_true, Function.comp, aeq_name, decide_eq_true_eq]
    exact ⟨fun ⟨x, hx, e⟩ => e ▸ hx, fun h => ⟨n, h, rfl⟩⟩
  have h3 : inA M (nameA n) (.lst (L.map nameA)) = some (decide (n ∈ L)) := by
    show (if plain 60 (nameA n) && (L.map nameA).all (plain 60) then some ((L.map nameA).any fun z => aeq z (nameA n)) else none) = _
    rw [plain_name, h1, h2]
    rfl
  unfold gIn
  rw [h3]
theorem v_inNT (neg : Bool) (n : Nm) (L : List Nm) {M : AH} : gIn neg (nameA n) (.tup (L.map nameA)) M = .ok (.bl (if neg then !decide (n ∈ L) else decide (n ∈ L))) M := by
  have h1 : (L.map nameA).all (plain 60) = true := by
    simp only [List.all_map, List.all_eq_true]
    exact fun n _ => plain_name n
  have h2 : ((L.map nameA).any fun z => aeq z (nameA n)) = decide (n ∈ L) := by
    rw [Bool.eq_iff_iff]
    simp only [List.any_map, List.any_eq_true, Function.comp, aeq_name, decide_eq_true_eq]
    exact ⟨fun ⟨x, hx, e⟩ => e ▸ hx, fun h => ⟨n, h, rfl⟩⟩
  have h3 : inA M (nameA n) (.tup (L.map nameA)) = some (decide (n ∈ L)) := by
    show (if plain 60 (nameA n) && (L.map nameA).all (plain 60) then some ((L.map nameA).any fun z => aeq z (nameA n)) else none) = _
    rw [plain_name, h1, h2]
    rfl
  unfold gIn
  rw [h3]
/-! ### dicts by names -/
section
variable {α : Type} {f : α → Nm} {g : α → AV}
def byN (f : α → Nm) (g : α → AV) (w : List α) : List (List Key × AV) := w.map fun r => (nameK (f r), g r)
theorem keysT_byN (w : List α) : keysT (byN f g w) = (w.map f).map nameA := by
  simp only [keysT, byN, List.map_map]
  rfl
theorem getK_byN (w : List α) (n : Nm) : getK (byN f g w) (nameK n) = (w.find? fun r => decide (f r = n)).map g := by
  unfold getK byN
  rw [List.find?_map]
  have e : ((fun kv : List Key × AV => decide (kv.1 = nameK n)) ∘ fun r => (nameK (f r), g r)) = fun r => decide (f r = n) := by
    funext r
    apply decide_eq_decide.mpr
    exact ⟨nameK_inj, fun h => by show nameK (f r) = nameK n; rw [h]⟩
  rw [e]
  cases w.find? fun r => decide (f r = n) <;> rfl
theorem find_in {w : List α} {n : Nm} (h : n ∈ w.map f) : ∃ r, (w.find? fun r => decide (f r = n)) = some r ∧ r ∈ w ∧ f r = n := by
  cases e : w.find? fun r => decide (f r = n) with
  | none =>
    obtain ⟨r, hr, he⟩ := List.mem_map.mp h
    have := List.find?_eq_none.mp e r hr
    simp [he] at this
  | some r => exact ⟨r, rfl, List.mem_of_find?_eq_some e, by simpa using List.find?_some e⟩
theorem find_no {w : List α} {n : Nm} (h : n ∉ w.map f) : (w.find? fun r => decide (f r = n)) = none := by
  refine List.find?_eq_none.mpr fun r hr => ?_
  simp only [decide_eq_true_eq]
  exact fun e => h (List.mem_map.mpr ⟨r, hr, e⟩)
theorem getK_isSome (w : List α) (n : Nm) : (getK (byN f g w) (nameK n)).isSome = decide (n ∈ w.map f) := by
  rw [getK_byN]
  by_cases h : n ∈ w.map f
  · obtain ⟨r, e, _⟩ := find_in h
    simp [e, h]
  · simp [find_no h, h]
theorem setK_new {w : List α} {r : α} (h : f r ∉ w.map f) : setK (byN f g w) (nameK (f r)) (g r) = byN f g (w ++ [r]) := by
  have e : ((byN f g w).any fun kv => decide (kv.1 = nameK (f r))) = false := by
    rw [Bool.eq_false_iff]
    intro z
    obtain ⟨kv, hk, e⟩ := List.any_eq_true.mp z
    obtain ⟨q, hq, rfl⟩ := List.mem_map.mp hk
    exact h (List.mem_map.mpr ⟨q, hq, nameK_inj (of_decide_eq_true e)⟩)
  unfold setK
  rw [e]
  simp [byN]
end
/-- a row of names with one more, unless it is there -/
def insN (L : List Nm) (n : Nm) : List Nm := if n ∈ L then L else L ++ [n]
theorem mem_insN {L : List Nm} {n m : Nm} : m ∈ insN L n ↔ m ∈ L ∨ m = n := by
  unfold insN
  by_cases h : n ∈ L
  · rw [if_pos h]
    exact ⟨.inl, fun z => z.elim id fun e => e ▸ h⟩
  · rw [if_neg h]
    simp
theorem nd_insN {L : List Nm} {n : Nm} (h : L.Nodup) : (insN L n).Nodup := by
  unfold insN
  by_cases q : n ∈ L
  · rw [if_pos q]
    exact h
  · rw [if_neg q, List.nodup_append]
    exact ⟨h, by simp, fun a ha b hb e => q (by rw [← List.mem_singleton.mp hb, ← e]; exact ha)⟩
abbrev trueK (L : List Nm) : List (List Key × AV) := byN id (fun _ => .bl true) L
theorem setK_true (L : List Nm) (n : Nm) : setK (trueK L) (nameK n) (.bl true) = trueK (insN L n) := by
  by_cases h : n ∈ L
  · have e : insN L n = L := if_pos h
    rw [e]
    have e1 : ((trueK L).any fun kv => decide (kv.1 = nameK n)) = true := List.any_eq_true.mpr ⟨(nameK n, .bl true), List.mem_map.mpr ⟨n, h, rfl⟩, by simp⟩
    unfold setK
    rw [if_pos e1]
    simp only [trueK, byN, List.map_map]
    refine List.map_congr_left fun m _ => ?_
    show (if nameK m = nameK n then (nameK m, AV.bl true) else (nameK m, .bl true)) = _
    by_cases q : nameK m = nameK n <;> simp [q]
  · have e : insN L n = L ++ [n] := if_neg h
    rw [e]
    exact setK_new (f := id) (g := fun _ => AV.bl true) (w := L) (r := n) (by simpa using h)
theorem nd_len {α : Type} [DecidableEq α] : ∀ (L D : List α), L.Nodup → (∀ x ∈ L, x ∈ D) → L.length ≤ D.length
  | [], D, _, _ => by simp
  | a :: r, D, hn, h => by
    have ha := h a (by simp)
    have := nd_len r (D.erase a) (List.nodup_cons.mp hn).2 fun x hx => by
      have ne : x ≠ a := fun e => (List.nodup_cons.mp hn).1 (e ▸ hx)
      exact (List.mem_erase_of_ne ne).mpr (h x (by simp [hx]))
    rw [List.length_erase_of_mem ha] at this
    have hp := List.length_pos_of_mem ha
    simp only [List.length_cons]
    omega
end Px

/-! Px8: behind the feed stand things that are changed: rules for them, loops over them, defs that change them. -/
namespace Px
open PySem hiding Env plain
open L2 Mx StrLaws PySem.W
section
variable {rest : List AV} {fz : List Nat} {M : AH} {P : AV → AH → Prop} {E : Str → List (Str × AV) → AH → Prop} {G : Env}
/-- a number's thing -/
theorem f_dctT {i : Nat} {kvs : List (List Key × AV)} (h : Fs rest fz M) (hx : rest[i]? = some (.dT kvs)) : dctT M (.ref (i + 1)) = some kvs := by
  have e : M.objs[i + 1]? = some (.dT kvs) := by rw [h.get, hx]
  simp [dctT, e]
theorem f_dctK {i : Nat} {kvs : List (Key × AV)} (h : Fs rest fz M) (hx : rest[i]? = some (.dK kvs)) : dctK M (.ref (i + 1)) = some kvs := by
  have e : M.objs[i + 1]? = some (.dK kvs) := by rw [h.get, hx]
  simp [dctK, e]
theorem f_dctK_T {i : Nat} {kvs : List (List Key × AV)} (h : Fs rest fz M) (hx : rest[i]? = some (.dT kvs)) : dctK M (.ref (i + 1)) = none := by
  have e : M.objs[i + 1]? = some (.dT kvs) := by rw [h.get, hx]
  simp [dctK, e]
theorem f_lstR_T {i : Nat} {kvs : List (List Key × AV)} (h : Fs rest fz M) (hx : rest[i]? = some (.dT kvs)) : lstR M (.ref (i + 1)) = none := by
  have e : M.objs[i + 1]? = some (.dT kvs) := by rw [h.get, hx]
  simp [lstR, e]
theorem f_ixT {i : Nat} {kvs : List (List Key × AV)} {b v : AV} {k : List Key} (h : Fs rest fz M) (hx : rest[i]? = some (.dT kvs)) (hk : keyT b = some k) (hv : getK kvs k = some v) : gIx (.ref (i + 1)) b M = .ok v M := by
  have e : ixA M (.ref (i + 1)) b = some v := by
    show ixO M (.ref (i + 1)) b = some v
    simp only [ixO, f_dctK_T h hx, f_dctT h hx, hk, Option.bind_some, hv]
  simp only [gIx, e]
theorem f_ixK {i : Nat} {kvs : List (Key × AV)} {b v : AV} {k : Key} (h : Fs rest fz M) (hx : rest[i]? = some (.dK kvs)) (hk : keyK b = some k) (hv : getK kvs k = some v) : gIx (.ref (i + 1)) b M = .ok v M := by
  have e : ixA M (.ref (i + 1)) b = some v := by
    show ixO M (.ref (i + 1)) b = some v
    simp only [ixO, f_dctK h hx, hk, Option.bind_some, hv]
  simp only [gIx, e]
theorem f_inT {i : Nat} {kvs : List (List Key × AV)} {b : AV} {k : List Key} {neg : Bool} (h : Fs rest fz M) (hx : rest[i]? = some (.dT kvs)) (hk : keyT b = some k) : gIn neg b (.ref (i + 1)) M = .ok (.bl (if neg then !(getK kvs k).isSome else (getK kvs k).isSome)) M := by
  have e : inA M b (.ref (i + 1)) = some (getK kvs k).isSome := by
    simp only [inA, f_dctK_T h hx, f_dctT h hx, hk, Option.map_some]
  simp only [gIn, e]
theorem f_inK {i : Nat} {kvs : List (Key × AV)} {b : AV} {k : Key} {neg : Bool} (h : Fs rest fz M) (hx : rest[i]? = some (.dK kvs)) (hk : keyK b = some k) : gIn neg b (.ref (i + 1)) M = .ok (.bl (if neg then !(getK kvs k).isSome else (getK kvs k).isSome)) M := by
  have e : inA M b (.ref (i + 1)) = some (getK kvs k).isSome := by
    simp only [inA, f_dctK h hx, hk, Option.map_some]
  simp only [gIn, e]
theorem f_sortT {i : Nat} {kvs : List (List Key × AV)} (h : Fs rest fz M) (hx : rest[i]? = some (.dT kvs)) (hs : sortOk (keysT kvs) = true) : gSorted [.ref (i + 1)] M = .ok (.lst (sortA (keysT kvs))) M := by
  simp only [gSorted, f_lstR_T h hx, f_dctT h hx, hs, if_true]
theorem f_sortN {α : Type} {f : α → Nm} {g : α → AV} {i : Nat} {w : List α} (h : Fs rest fz M) (hx : rest[i]? = some (.dT (byN f g w))) : gSorted [.ref (i + 1)] M = .ok (.lst ((sortN (w.map f)).map nameA)) M := by
  rw [f_sortT h hx (by rw [keysT_byN]; exact sortOk_names _), keysT_byN, sortA_names]
theorem v_sortN (L : List Nm) : gSorted [.lst (L.map nameA)] M = .ok (.lst ((sortN L).map nameA)) M := by
  simp only [gSorted, lstR, sortOk_names, if_true, sortA_names]
/-- a thing is put into a dict with tuple keys -/
theorem f_putT {i : Nat} {kvs : List (List Key × AV)} {v : AV} {mo mi : EM} {b : AV} {k : List Key} {Q : Env → AH → Prop} (h : Fs rest [] M) (hx : rest[i]? = some (.dT kvs)) (hl : kvs.length < 16777216)
    (ho : mo G M = .ok (.ref (i + 1)) M) (hi : mi G M = .ok b M) (hk : keyT b = some k) (q : ∀ M', Fs (rest.set i (.dT (setK kvs k v))) [] M' → Q G M') : wpR (gPut mo mi v G M) Q E := by
  have e : M.objs[i + 1]? = some (.dT kvs) := by rw [h.get, hx]
  have e2 : aSet (.ref (i + 1)) b v M = some ⟨M.objs.set (i + 1) (.dT (setK kvs k v)), M.fz⟩ := by
    simp only [aSet, e, hk, Option.map_some]
    rw [if_neg]
    rw [h.fzs]
    simp [hl]
  simp only [gPut, ho, hi, e2, wpR_ok]
  exact q _ (h.set i _)
theorem f_putK {i : Nat} {kvs : List (Key × AV)} {v : AV} {mo mi : EM} {b : AV} {k : Key} {Q : Env → AH → Prop} (h : Fs rest [] M) (hx : rest[i]? = some (.dK kvs)) (hl : kvs.length < 16777216)
    (ho : mo G M = .ok (.ref (i + 1)) M) (hi : mi G M = .ok b M) (hk : keyK b = some k) (q : ∀ M', Fs (rest.set i (.dK (setK kvs k v))) [] M' → Q G M') : wpR (gPut mo mi v G M) Q E := by
  have e : M.objs[i + 1]? = some (.dK kvs) := by rw [h.get, hx]
  have e2 : aSet (.ref (i + 1)) b v M = some ⟨M.objs.set (i + 1) (.dK (setK kvs k v)), M.fz⟩ := by
    simp only [aSet, e, hk, Option.map_some]
    rw [if_neg]
    rw [h.fzs]
    simp [hl]
  simp only [gPut, ho, hi, e2, wpR_ok]
  exact q _ (h.set i _)
@[simp] theorem w_dictT : wpR (mDictT G M) P E = P (.ref M.objs.length) ⟨M.objs ++ [.dT []], M.fz⟩ := byrfl rfl
@[simp] theorem w_dictK : wpR (mDictK G M) P E = P (.ref M.objs.length) ⟨M.objs ++ [.dK []], M.fz⟩ := byrfl rfl
@[simp] theorem w_callK (g : List AV → List AV → AH → Res AV) (n k : AM) : wpR (mCallK g n k G M) P E = wpR (n G M) (fun as M1 => wpR (k G M1) (fun zs M2 => wpR (g as zs M2) P E) E) E := by
  unfold mCallK
  simp
theorem f_seq {i : Nat} {xs : List AV} (h : Fs rest fz M) (hx : rest[i]? = some (.lst xs)) : seqOf M (.ref (i + 1)) = some ⟨xs, some (i + 1)⟩ := by
  have e : M.objs[i + 1]? = some (.lst xs) := by rw [h.get, hx]
  simp [seqOf, e]
theorem f_held {i : Nat} {xs : List AV} (h : Fs rest fz M) (hx : rest[i]? = some (.lst xs)) : (Src.mk xs (some (i + 1))).held M := by
  show M.objs[i + 1]? = some (.lst xs)
  rw [h.get, hx]
end
/-- a loop over a row that may be changed, but isn't -/
theorem wp_loopH {S : Src} {t : TMt} {body : SM} {D : SD} (I : Nat → Env → AH → Prop) (hI : ∀ k G M, I k G M → S.held M) :
    ∀ (items : List AV) (k : Nat) (G : Env) (M : AH), I k G M →
    (∀ j a G M, items[j]? = some a → I (k + j) G M → wpR (t a G M) (fun G1 M1 => wpS (body G1 M1) ⟨I (k + j + 1), D.rt, D.ex, D.nx, I (k + j + 1)⟩) fun _ _ _ => False) →
    (∀ G M, I (k + items.length) G M → D.nx G M) → wpS (loop S t body items G M) D
  | [], k, G, M, h, _, hp => by
    have e : loop S t body [] G M = .next G M := if_pos (hI _ _ _ h)
    rw [e, wpS_next]
    exact hp _ _ h
  | a :: r, k, G, M, h, hs, hp => by
    have h1 := hs 0 a G M rfl h
    have ih := fun G' M' (hI' : I (k + 1) G' M') => wp_loopH (D := D) (t := t) (body := body) I hI r (k + 1) G' M' hI' (fun j b G2 M2 hb hI2 => by
      have q := hs (j + 1) b G2 M2 (by simpa using hb) (by rwa [show k + (j + 1) = k + 1 + j by omega])
      rwa [show k + (j + 1) = k + 1 + j by omega] at q) (fun G2 M2 hI2 => hp _ _ (by rwa [List.length_cons, show k + (r.length + 1) = k + 1 + r.length by omega]))
    have e : loop S t body (a :: r) G M = (match t a G M with
      | .ok G1 M1 => (match body G1 M1 with
        | .next G2 M2 => loop S t body r G2 M2
        | .cnt G2 M2 => loop S t body r G2 M2
        | .brk G2 M2 => .next G2 M2
        | r => r)
      | _ => .stuck) := if_pos (hI _ _ _ h)
    rw [e]
    cases q : t a G M with
    | ok G1 M1 =>
      rw [q] at h1
      simp only [wpR_ok] at h1
      show wpS (match body G1 M1 with
        | .next G2 M2 => loop S t body r G2 M2
        | .cnt G2 M2 => loop S t body r G2 M2
        | .brk G2 M2 => .next G2 M2
        | r => r) D
      cases q2 : body G1 M1 with
      | next G2 M2 => rw [q2] at h1; exact ih _ _ h1
      | cnt G2 M2 => rw [q2] at h1; exact ih _ _ h1
      | brk G2 M2 => rw [q2] at h1; exact h1
      | ret a M => rw [q2] at h1; exact h1
      | exc c fs G M => rw [q2] at h1; exact h1
      | stuck => rw [q2] at h1; exact h1
    | exc c fs M' => rw [q] at h1; exact h1.elim
    | stuck => rw [q] at h1; exact h1.elim
/-- a loop whose state is told by a fold: after each item the state steps -/
theorem wp_fold {σ α : Type} {S : Src} {t : TMt} {body : SM} {D : SD} (e : α → AV) (step : σ → α → σ) (I : σ → Env → AH → Prop) (hI : ∀ s G M, I s G M → S.held M) :
    ∀ (xs : List α) (s : σ) (G : Env) (M : AH), I s G M →
    (∀ s x G M, x ∈ xs → I s G M → wpR (t (e x) G M) (fun G1 M1 => wpS (body G1 M1) ⟨I (step s x), D.rt, D.ex, fun _ _ => False, I (step s x)⟩) fun _ _ _ => False) →
    (∀ G M, I (xs.foldl step s) G M → D.nx G M) → wpS (loop S t body (xs.map e) G M) D
  | [], s, G, M, h, _, hp => by
    have e : loop S t body [] G M = .next G M := if_pos (hI _ _ _ h)
    rw [List.map_nil, e, wpS_next]
    exact hp _ _ h
  | a :: r, s, G, M, h, hs, hp => by
    have h1 := hs s a G M (by simp) h
    have ih := fun G' M' (hI' : I (step s a) G' M') => wp_fold (D := D) (t := t) (body := body) e step I hI r (step s a) G' M' hI' (fun s2 b G2 M2 hb hI2 => hs s2 b G2 M2 (by simp [hb]) hI2) (fun G2 M2 hI2 => hp _ _ hI2)
    have el : loop S t body ((a :: r).map e) G M = (match t (e a) G M with
      | .ok G1 M1 => (match body G1 M1 with
        | .next G2 M2 => loop S t body (r.map e) G2 M2
        | .cnt G2 M2 => loop S t body (r.map e) G2 M2
        | .brk G2 M2 => .next G2 M2
        | r => r)
      | _ => .stuck) := if_pos (hI _ _ _ h)
    rw [el]
    cases q : t (e a) G M with
    | ok G1 M1 =>
      rw [q] at h1
      simp only [wpR_ok] at h1
      show wpS (match body G1 M1 with
        | .next G2 M2 => loop S t body (r.map e) G2 M2
        | .cnt G2 M2 => loop S t body (r.map e) G2 M2
        | .brk G2 M2 => .next G2 M2
        | r => r) D
      cases q2 : body G1 M1 with
      | next G2 M2 => rw [q2] at h1; exact ih _ _ h1
      | cnt G2 M2 => rw [q2] at h1; exact ih _ _ h1
      | brk G2 M2 => rw [q2] at h1; exact h1.elim
      | ret a M => rw [q2] at h1; exact h1
      | exc c fs G M => rw [q2] at h1; exact h1
      | stuck => rw [q2] at h1; exact h1
    | exc c fs M' => rw [q] at h1; exact h1.elim
    | stuck => rw [q] at h1; exact h1.elim

/-- a def that changes what stands behind the feed -/
theorem wp_gcW {m : List AV → AH → Res AV} {as : List AV} {M : AH} {rest : List AV} {fz : List Nat} {P : AV → AH → Prop} {E : Str → List (Str × AV) → AH → Prop} (hM : Fs rest fz M)
    (h : wpR (m as M) (fun a M' => plain 60 a = true ∧ ∃ rest' tmp, rest'.length = rest.length ∧ Fs (rest' ++ tmp) fz M' ∧ (∀ c ∈ rest', cl (rest.length + 1) c = true) ∧ ∀ M'', Fs rest' fz M'' → P a M'') fun _ _ _ => False) : wpR (gc m as M) P E := by
  unfold gc
  cases q : m as M with
  | ok a M' =>
    rw [q] at h
    obtain ⟨hp, rest', tmp, hl', ⟨cs', a', l', n', rfl⟩, hcl, hP⟩ := h
    obtain ⟨cs, a0, l, n, rfl⟩ := hM
    have hl : (st cs a0 l n rest fz).objs.length = rest.length + 1 := rfl
    have hfin : fin (rest.length + 1) (st cs' a' l' n' (rest' ++ tmp) fz) a = a := by cases a <;> first | rfl | (simp [plain] at hp)
    have hc : Clean (rest.length + 1) (st cs a0 l n rest fz) (st cs' a' l' n' (rest' ++ tmp) fz) := by
      refine ⟨rfl, by simp [st, hl'], fun k c hk hq => ?_⟩
      cases k with
      | zero =>
        have e : c = fd cs' a' l' n' := by
          have hq : some (fd cs' a' l' n') = some c := hq
          exact (Option.some.inj hq).symm
        exact .inr (e ▸ cl_fd _ _ _ _ _)
      | succ k =>
        have hq : (rest' ++ tmp)[k]? = some c := hq
        rw [List.getElem?_append_left (by omega)] at hq
        exact .inr (hcl c (List.mem_of_getElem? hq))
    rw [hl]
    simp only [hfin, hc, plain_cl _ _ _ hp, and_self, if_true, wpR_ok]
    refine hP _ ⟨cs', a', l', n', ?_⟩
    simp only [AH.cut, st, List.take_succ_cons]
    rw [← hl', List.take_left]
  | exc c fs M' => rw [q] at h; exact h.elim
  | stuck => rw [q] at h; exact h.elim
end Px

/-! Px9: words drawn. -/
namespace Px
open PySem hiding Env plain
open L2 Mx StrLaws PySem.W
noncomputable def words_b : SM := mThen (mSet 2 (mC (.str "abcdefghijklmnopqrstuvwxyz"))) (mThen (mSet 3 (mCall m_draw (mCons (mVar 0) (mCons (mC (.int 4)) (mNil))))) (mThen (mIf (mBl (mBin gEq (mVar 3) (mC (.int 0)))) (mThen (mSet 4 (mBin gIx (mVar 2) (mCall m_draw (mCons (mVar 0) (mCons (mC (.int 26)) (mNil)))))) (mRet (mBin gStep (mLcV (mLc [5] (mRng1 (mCons (mVar 1) (mNil))) (gNm 5) ((fun _ M => Res.ok true M)) (mBin gMul (mVar 4) (mBin gAdd (mVar 5) (mC (.int 1)))))) (mBin gSub (mC (.int 1)) (mBin gMul (mC (.int 2)) (mCall m_draw (mCons (mVar 0) (mCons (mC (.int 2)) (mNil))))))))) (mNext)) (mThen (mSet 6 (mMeth tyS gJoin (mC (.str "")) (mCons (mLcV (mLc [5] (mRng1 (mCons (mCall m_draw (mCons (mVar 0) (mCons (mC (.int 7)) (mNil)))) (mNil))) (gNm 5) ((fun _ M => Res.ok true M)) (mBin gIx (mVar 2) (mCall m_draw (mCons (mVar 0) (mCons (mC (.int 26)) (mNil))))))) (mNil)))) (mThen (mSet 7 (mCall m_draw (mCons (mVar 0) (mCons (mBin gAdd (mCall gLen (mCons (mVar 6) (mNil))) (mC (.int 1))) (mNil))))) (mThen (mSet 8 (mCall m_draw (mCons (mVar 0) (mCons (mC (.int 26)) (mNil))))) (mThen (mSet 9 (mBin gIx (mLst (mCons (mC (.int 1)) (mCons (mC (.int 3)) (mCons (mC (.int 5)) (mCons (mC (.int 7)) (mCons (mC (.int 9)) (mCons (mC (.int 25)) (mNil)))))))) (mCall m_draw (mCons (mVar 0) (mCons (mC (.int 6)) (mNil)))))) (mThen (mSet 10 (mLstR (mNil))) (mThen (mFor (mRng1 (mCons (mVar 1) (mNil))) (gNm 5) (mThen (mSet 11 (mBin gMul (mBin gIx (mVar 2) (mCall m_draw (mCons (mVar 0) (mCons (mC (.int 26)) (mNil))))) (mCall m_draw (mCons (mVar 0) (mCons (mC (.int 2)) (mNil)))))) (mThen (mSet 12 (mBin gIx (mVar 2) (mBin gMod (mBin gAdd (mVar 8) (mBin gMul (mVar 5) (mVar 9))) (mC (.int 26))))) (mExp (mMeth tyL gAppend (mVar 10) (mCons (mBin gAdd (mBin gAdd (mBin gAdd (mSl gSl (mVar 6) (mNoPart) (mPart (mVar 7))) (mVar 12)) (mSl gSl (mVar 6) (mPart (mVar 7)) (mNoPart))) (mVar 11)) (mNil))))))) (mRet (mVar 10))))))))))
noncomputable def m_words : List AV → AH → Res AV := gc (mDef 2 11 words_b)
noncomputable def deed_b : SM := mThen (mSet 4 (mC (.str "abcdefghijklmnopqrstuvwxyz "))) (mThen (mSet 5 (mMeth tyS gJoin (mC (.str "")) (mCons (mLcV (mLc [10] (mRng1 (mCons (mBin gAdd (mC (.int 1)) (mCall m_draw (mCons (mVar 0) (mCons (mC (.int 5)) (mNil))))) (mNil))) (gNm 10) ((fun _ M => Res.ok true M)) (mBin gIx (mVar 4) (mCall m_draw (mCons (mVar 0) (mCons (mC (.int 27)) (mNil))))))) (mNil)))) (mThen (mSet 6 (mCall m_draw (mCons (mVar 0) (mCons (mC (.int 6)) (mNil))))) (mThen (mSet 7 (mLcV (mLc [9] (mSeq (mVar 3)) (gNm 9) ((fun _ M => Res.ok true M)) (mBin gIx (mBin gIx (mBin gIx (mBin gIx (mVar 1) (mC (.str "changes"))) (mVar 9)) (mC (.int 3))) (mC (.int 0)))))) (mThen (mSet 8 (mLcV (mLc [10] (mRng1 (mCons (mCall gLen (mCons (mVar 3) (mNil))) (mNil))) (gNm 10) (mBl (mBin gEq (mBin gIx (mVar 7) (mVar 10)) (mC (.str "hang")))) (mBin gIx (mVar 3) (mVar 10))))) (mThen (mIf (mAnd (mBl (mBin gEq (mVar 6) (mC (.int 0)))) (mBl (mBin gGt (mCall gLen (mCons (mVar 2) (mNil))) (mC (.int 1))))) (mRet (mTup (mCons (mC (.str "join")) (mNil)))) (mNext)) (mThen (mIf (mAnd (mBl (mBin gEq (mVar 6) (mC (.int 1)))) (mAnd (mBl (mBin (gIn false) (mC (.str "put")) (mVar 7))) (mBl (mBin gLt (mCall gLen (mCons (mBin gIx (mVar 1) (mC (.str "hangs"))) (mNil))) (mC (.int 6)))))) (mRet (mTup (mCons (mC (.str "hang")) (mCons (mC (.int 0)) (mCons (mC (.int 1)) (mCons (mBin gIx (mLst (mCons (mC (.str "shut")) (mCons (mC (.str "wide")) (mNil)))) (mCall m_draw (mCons (mVar 0) (mCons (mC (.int 2)) (mNil))))) (mCons (mVar 5) (mNil)))))))) (mNext)) (mThen (mIf (mAnd (mBl (mBin gEq (mVar 6) (mC (.int 2)))) (mBl (mBin gNe (mVar 8) (mLst (mNil))))) (mRet (mTup (mCons (mC (.str "answer")) (mCons (mBin gIx (mVar 8) (mCall m_draw (mCons (mVar 0) (mCons (mCall gLen (mCons (mVar 8) (mNil))) (mNil))))) (mCons (mVar 5) (mNil)))))) (mNext)) (mRet (mTup (mCons (mC (.str "put")) (mCons (mC (.int 0)) (mCons (mVar 5) (mNil)))))))))))))
noncomputable def m_deed : List AV → AH → Res AV := gc (mDef 4 7 deed_b)
noncomputable def step_b : SM := mThen (mSet 3 (mBin gIx (mVar 2) (mCall m_draw (mCons (mVar 0) (mCons (mCall gLen (mCons (mVar 2) (mNil))) (mNil)))))) (mThen (mSet 4 (mCall gSorted (mCons (mBin gIx (mVar 1) (mC (.str "changes"))) (mNil)))) (mThen (mSet 5 (mIfE (mBl (mBin (gIn false) (mVar 3) (mBin gIx (mVar 1) (mC (.str "last"))))) (mLstR (mCons (mBin gIx (mBin gIx (mVar 1) (mC (.str "last"))) (mVar 3)) (mNil))) (mLstR (mNil)))) (mThen (mIf (mAnd (mBl (mBin gNe (mVar 4) (mLst (mNil)))) (mBl (mBin gLt (mCall m_draw (mCons (mVar 0) (mCons (mC (.int 5)) (mNil)))) (mC (.int 2))))) (mExp (mMeth tyL gAppend (mVar 5) (mCons (mBin gIx (mVar 4) (mCall m_draw (mCons (mVar 0) (mCons (mCall gLen (mCons (mVar 4) (mNil))) (mNil))))) (mNil)))) (mNext)) (mThen (mSet 6 (mDictT)) (mThen (mFor (mSeq (mVar 5)) (gNm 7) (mFor (mSeq (mBin gAdd (mBin gIx (mBin gIx (mVar 1) (mC (.str "knows"))) (mVar 7)) (mLst (mCons (mVar 7) (mNil))))) (gNm 8) (mAsg (gPut (mVar 6) (mVar 8)) (mC (.bl true))))) (mThen (mSet 9 (mCall gSorted (mCons (mVar 6) (mNil)))) (mThen (mSet 10 (mDictT)) (mThen (mFor (mSeq (mVar 9)) (gNm 8) (mFor (mSeq (mBin gIx (mBin gIx (mVar 1) (mC (.str "knows"))) (mVar 8))) (gNm 7) (mAsg (gPut (mVar 10) (mVar 7)) (mC (.bl true))))) (mThen (mSet 11 (mCall gTuple (mCons (mLcV (mLc [8] (mSeq (mVar 9)) (gNm 8) (mBl (mBin (gIn true) (mVar 8) (mVar 10))) (mVar 8))) (mNil)))) (mThen (mSet 12 (mTup (mCons (mBin gAdd (mC (.int 1)) (mCallK gMaxDf (mCons (mLcV (mLc [8] (mSeq (mVar 9)) (gNm 8) ((fun _ M => Res.ok true M)) (mBin gIx (mVar 8) (mC (.int 0))))) (mNil)) (mCons (mC (.int 0)) mNil))) (mCons (mVar 3) (mNil))))) (mThen (mSet 13 (mCall m_deed (mCons (mVar 0) (mCons (mVar 1) (mCons (mVar 11) (mCons (mVar 9) (mNil))))))) (mThen (mIf (mBl (mBin gEq (mBin gIx (mVar 13) (mC (.int 0))) (mC (.str "hang")))) (mExp (mMeth tyL gAppend (mBin gIx (mVar 1) (mC (.str "hangs"))) (mCons (mVar 12) (mNil)))) (mNext)) (mThen (mAsg (gPut (mBin gIx (mVar 1) (mC (.str "changes"))) (mVar 12)) (mTup (mCons (mVar 12) (mCons (mBin gIx (mVar 2) (mCall m_draw (mCons (mVar 0) (mCons (mCall gLen (mCons (mVar 2) (mNil))) (mNil))))) (mCons (mVar 11) (mCons (mVar 13) (mNil))))))) (mThen (mAsg (gPut (mBin gIx (mVar 1) (mC (.str "knows"))) (mVar 12)) (mVar 9)) (mAsg (gPut (mBin gIx (mVar 1) (mC (.str "last"))) (mVar 3)) (mVar 12))))))))))))))))
noncomputable def m_step : List AV → AH → Res AV := gc (mDef 3 11 step_b)
noncomputable def world_b : SM := mThen (mSet 3 (mDisp (kCons (.inr "changes") (mDictT) (kCons (.inr "knows") (mDictT) (kCons (.inr "last") (mDictK) (kCons (.inr "hangs") (mLstR (mNil)) (kNil))))))) (mThen (mFor (mRng1 (mCons (mVar 2) (mNil))) (gNm 4) (mExp (mCall m_step (mCons (mVar 0) (mCons (mVar 3) (mCons (mVar 1) (mNil))))))) (mRet (mVar 3)))
noncomputable def m_world : List AV → AH → Res AV := gc (mDef 3 2 world_b)
noncomputable def ledger_b : SM := mRet (mCall gTuple (mCons (mLcV (mLc [2] (mSeq (mCall gSorted (mCons (mBin gIx (mVar 0) (mC (.str "changes"))) (mNil)))) (gNm 2) (mBl (mBin (gIn false) (mVar 2) (mVar 1))) (mBin gIx (mBin gIx (mVar 0) (mC (.str "changes"))) (mVar 2)))) (mNil)))
noncomputable def m_ledger : List AV → AH → Res AV := gc (mDef 2 1 ledger_b)

section
variable {rest : List AV} {fz : List Nat} {M : AH} {P : AV → AH → Prop} {E : Str → List (Str × AV) → AH → Prop} {G : Env}
/-- a def that draws and answers a plain thing, or a row of its own -/
theorem wp_gcL {m : List AV → AH → Res AV} {as : List AV} (hM : Fs rest fz M)
    (h : wpR (m as M) (fun a M' => ∃ tmp, Fs (rest ++ tmp) fz M' ∧ ((plain 60 a = true ∧ ∀ M'', Fs rest fz M'' → P a M'') ∨ ∃ i xs, a = .ref (rest.length + 1 + i) ∧ tmp[i]? = some (.lst xs) ∧ (∀ x ∈ xs, plain 60 x = true) ∧ ∀ M'', Fs rest fz M'' → P (.lst xs) M'')) fun _ _ _ => False) : wpR (gc m as M) P E := by
  unfold gc
  cases q : m as M with
  | ok a M' =>
    rw [q] at h
    obtain ⟨tmp, ⟨cs', a', l', n', rfl⟩, h⟩ := h
    obtain ⟨cs, a0, l, n, rfl⟩ := hM
    have hl : (st cs a0 l n rest fz).objs.length = rest.length + 1 := rfl
    have hc : Clean (rest.length + 1) (st cs a0 l n rest fz) (st cs' a' l' n' (rest ++ tmp) fz) := by
      refine ⟨rfl, by simp [st], fun k c hk hq => ?_⟩
      cases k with
      | zero =>
        have e : c = fd cs' a' l' n' := by
          have hq : some (fd cs' a' l' n') = some c := hq
          exact (Option.some.inj hq).symm
        exact .inr (e ▸ cl_fd _ _ _ _ _)
      | succ k =>
        have hq : (rest ++ tmp)[k]? = some c := hq
        rw [List.getElem?_append_left (by omega)] at hq
        exact .inl hq
    have hcut : (st cs' a' l' n' (rest ++ tmp) fz).cut (rest.length + 1) = st cs' a' l' n' rest fz := by
      simp only [AH.cut, st, List.take_succ_cons, List.take_left']
    rw [hl]
    rcases h with ⟨hp, hP⟩ | ⟨i, xs, rfl, hi, hx, hP⟩
    · have hfin : fin (rest.length + 1) (st cs' a' l' n' (rest ++ tmp) fz) a = a := by cases a <;> first | rfl | (simp [plain] at hp)
      simp only [hfin, hc, plain_cl _ _ _ hp, and_self, if_true, wpR_ok, hcut]
      exact hP _ ⟨cs', a', l', n', rfl⟩
    · have hg : (st cs' a' l' n' (rest ++ tmp) fz).objs[rest.length + 1 + i]? = some (.lst xs) := by
        show (fd cs' a' l' n' :: (rest ++ tmp))[rest.length + 1 + i]? = _
        rw [show rest.length + 1 + i = (rest.length + i) + 1 by omega, List.getElem?_cons_succ, List.getElem?_append_right (by omega)]
        rw [show rest.length + i - rest.length = i by omega, hi]
      have hfin : fin (rest.length + 1) (st cs' a' l' n' (rest ++ tmp) fz) (.ref (rest.length + 1 + i)) = .lst xs := by
        simp [fin, hg]
      have hcl : cl (rest.length + 1) (.lst xs) = true := plain_cls _ 60 xs hx
      simp only [hfin, hc, hcl, and_self, if_true, wpR_ok, hcut]
      exact hP _ ⟨cs', a', l', n', rfl⟩
  | exc c fs M' => rw [q] at h; exact h.elim
  | stuck => rw [q] at h; exact h.elim
@[simp] theorem w_mulS (x : Str) (n : Int) : wpR (gMul (.str x) (.int n) M) P E = ((0 ≤ n ∧ n ≤ 100 ∧ x.length ≤ 1000) ∧ P (.str (strMul x n)) M) := by
  show wpR (if 0 ≤ n ∧ n ≤ 100 ∧ x.length ≤ 1000 then Res.ok (AV.str (strMul x n)) M else .stuck) P E = _
  by_cases h : 0 ≤ n ∧ n ≤ 100 ∧ x.length ≤ 1000
  · rw [if_pos h]
    simp [h]
  · rw [if_neg h]
    simp only [wpR_stuck, h, false_and]
theorem tx_mul {Q : Nat → Prop} {k : Nat} {x : Str} (h : Tx Q k x) (n : Int) : Tx Q (k * n.toNat) (strMul x n) := by
  have hl : ∀ m : Nat, ((List.replicate m x.cps.toList).flatten).length = m * x.length := fun m => by
    induction m with
    | zero => simp
    | succ m ih => simp [List.replicate_succ, ih, Nat.succ_mul, Str.length]; omega
  refine ⟨?_, fun c hc => ?_⟩
  · show ((List.replicate n.toNat x.cps.toList).flatten).toArray.size ≤ _
    rw [List.size_toArray, hl, Nat.mul_comm]
    exact Nat.mul_le_mul_right _ h.len
  · have hc : c ∈ (List.replicate n.toNat x.cps.toList).flatten := by simpa [strMul] using hc
    obtain ⟨l, h1, h2⟩ := List.mem_flatten.mp hc
    rw [(List.mem_replicate.mp h1).2] at h2
    exact h.all c h2
@[simp] theorem v_stepL1 (xs : List AV) : gStep (.lst xs) (.int 1) M = .ok (.lst xs) M := byrfl rfl
@[simp] theorem v_stepL2 (xs : List AV) : gStep (.lst xs) (.int (-1)) M = .ok (.lst xs.reverse) M := byrfl rfl
theorem plain_strs (ws : List Str) : ∀ x ∈ ws.map AV.str, plain 60 x = true := fun x hx => by
  obtain ⟨y, _, rfl⟩ := List.mem_map.mp hx
  rfl
/-- words -/
def Wds (n : Nat) (ws : List Str) : Prop := ws.length = n ∧ ∀ x ∈ ws, Tx AnyC 20 x
theorem d_words {n : Nat} (h0 : 0 ∉ fz) (hM : Fs rest fz M) (n1 : n ≤ 6) (q : ∀ ws M', Wds n ws → Fs rest fz M' → P (.lst (ws.map .str)) M') : wpR (m_words [.ref 0, .int (n : Int)] M) P E := by
  refine wp_gcL hM ?_
  refine wp_def rfl ?_
  unfold words_b
  have a26 : Tx AnyC 26 ("abcdefghijklmnopqrstuvwxyz" : Str) := ⟨by decide +kernel, by decide +kernel⟩
  have l26 : ("abcdefghijklmnopqrstuvwxyz" : Str).length = 26 := by decide +kernel
  generalize ("abcdefghijklmnopqrstuvwxyz" : Str) = abc at *
  try simp -implicitDefEqProofs only [List.map_cons, List.map_nil, List.cons_append, List.nil_append, List.replicate, List.set_cons_succ, List.set_cons_zero, wipeG, wpS_then, wpS_set, wpS_if, wpS_mret, wpS_retN, wpS_mnext, wpS_mbrk, wpS_mcnt, wpS_exp, wpS_asg, wpS_for, w_c, w_bin, w_un, w_ifE, w_andV, w_orV, w_notV, w_call, w_chain, w_meth, w_meth0, w_sl, w_noPart, w_part, w_nil, w_cons, w_bl, w_tru, w_and, w_or, w_not, w_lcV, w_lcR, w_lc, w_seq, w_rng1, w_rng2, w_var0, w_var1, w_var2, w_var3, w_var4, w_var5, w_var6, w_var7, w_var8, w_var9, w_var10, w_var11, w_var12, w_var13, w_var14, w_var15, w_var16, w_var17, w_var18, w_var19, w_var20, w_dictT, w_dictK, w_callK, wpR_ok, wpR_sized, v_nm, v_addI, v_addS, v_addT, v_addL, v_sub, v_neg, w_mul, w_div, w_mod, w_pow, v_ordI, v_eqI, v_neI, v_eqS, v_neS, v_lenS, v_lenL, v_lenF, v_lenT, v_truB, v_seqS, v_seqT, v_seqL, v_seqF, v_listT, v_listL, v_tupleL, v_tupleT, v_tupD, v_lstD, v_lstR, v_slT, v_slL, v_slF, w_slS, defD_rt, defD_nx, defD_ex, defD_bk, defD_ct, AV.bl.injEq, AV.int.injEq, Option.some.injEq, exists_eq_left', tyS, if_true, if_false, Bool.false_eq_true, true_and, and_true, w_mulS]
  refine d_draw h0 hM (by decide) (by decide) fun r M1 r0 r1 h1 => ?_
  try simp -implicitDefEqProofs only [List.map_cons, List.map_nil, List.cons_append, List.nil_append, List.replicate, List.set_cons_succ, List.set_cons_zero, wipeG, wpS_then, wpS_set, wpS_if, wpS_mret, wpS_retN, wpS_mnext, wpS_mbrk, wpS_mcnt, wpS_exp, wpS_asg, wpS_for, w_c, w_bin, w_un, w_ifE, w_andV, w_orV, w_notV, w_call, w_chain, w_meth, w_meth0, w_sl, w_noPart, w_part, w_nil, w_cons, w_bl, w_tru, w_and, w_or, w_not, w_lcV, w_lcR, w_lc, w_seq, w_rng1, w_rng2, w_var0, w_var1, w_var2, w_var3, w_var4, w_var5, w_var6, w_var7, w_var8, w_var9, w_var10, w_var11, w_var12, w_var13, w_var14, w_var15, w_var16, w_var17, w_var18, w_var19, w_var20, w_dictT, w_dictK, w_callK, wpR_ok, wpR_sized, v_nm, v_addI, v_addS, v_addT, v_addL, v_sub, v_neg, w_mul, w_div, w_mod, w_pow, v_ordI, v_eqI, v_neI, v_eqS, v_neS, v_lenS, v_lenL, v_lenF, v_lenT, v_truB, v_seqS, v_seqT, v_seqL, v_seqF, v_listT, v_listL, v_tupleL, v_tupleT, v_tupD, v_lstD, v_lstR, v_slT, v_slL, v_slF, w_slS, defD_rt, defD_nx, defD_ex, defD_bk, defD_ct, AV.bl.injEq, AV.int.injEq, Option.some.injEq, exists_eq_left', tyS, if_true, if_false, Bool.false_eq_true, true_and, and_true, w_mulS]
  split
  · refine d_draw h0 h1 (by decide) (by decide) fun c M2 c0 c1 h2 => ?_
    refine w_sign a26 (by decide) c0 (by omega) fun c hc => ?_
    try simp -implicitDefEqProofs only [List.map_cons, List.map_nil, List.cons_append, List.nil_append, List.replicate, List.set_cons_succ, List.set_cons_zero, wipeG, wpS_then, wpS_set, wpS_if, wpS_mret, wpS_retN, wpS_mnext, wpS_mbrk, wpS_mcnt, wpS_exp, wpS_asg, wpS_for, w_c, w_bin, w_un, w_ifE, w_andV, w_orV, w_notV, w_call, w_chain, w_meth, w_meth0, w_sl, w_noPart, w_part, w_nil, w_cons, w_bl, w_tru, w_and, w_or, w_not, w_lcV, w_lcR, w_lc, w_seq, w_rng1, w_rng2, w_var0, w_var1, w_var2, w_var3, w_var4, w_var5, w_var6, w_var7, w_var8, w_var9, w_var10, w_var11, w_var12, w_var13, w_var14, w_var15, w_var16, w_var17, w_var18, w_var19, w_var20, w_dictT, w_dictK, w_callK, wpR_ok, wpR_sized, v_nm, v_addI, v_addS, v_addT, v_addL, v_sub, v_neg, w_mul, w_div, w_mod, w_pow, v_ordI, v_eqI, v_neI, v_eqS, v_neS, v_lenS, v_lenL, v_lenF, v_lenT, v_truB, v_seqS, v_seqT, v_seqL, v_seqF, v_listT, v_listL, v_tupleL, v_tupleT, v_tupD, v_lstD, v_lstR, v_slT, v_slL, v_slF, w_slS, defD_rt, defD_nx, defD_ex, defD_bk, defD_ct, AV.bl.injEq, AV.int.injEq, Option.some.injEq, exists_eq_left', tyS, if_true, if_false, Bool.false_eq_true, true_and, and_true, w_mulS]
    rw [w_gRng1 (by unfold rngOk; simp; omega)]
    have hn : (n : Int).toNat = n := by omega
    have hl : lcl ⟨rngItems 0 (n : Int).toNat, none⟩ (gNm 5) (fun _ M => .ok true M) (mBin gMul (mVar 4) (mBin gAdd (mVar 5) (mC (.int 1)))) [some (.ref 0), some (.int (n : Int)), some (.str abc), some (.int r), some (chrA c), none, none, none, none, none, none, none, none] (rngItems 0 (n : Int).toNat) [] M2 =
        .ok ((((List.range n).filter fun _ => true).map fun k : Nat => AV.str (strMul ⟨#[c]⟩ (0 + (k : Int) + 1)))) M2 := by
      have := lcl_map (l0 := rngItems 0 (n : Int).toNat) (t := gNm 5) (c := fun _ M => .ok true M) (el := mBin gMul (mVar 4) (mBin gAdd (mVar 5) (mC (.int 1)))) (G := [some (.ref 0), some (.int (n : Int)), some (.str abc), some (.int r), some (chrA c), none, none, none, none, none, none, none, none]) (M := M2) (fun k : Nat => AV.int (0 + (k : Int))) (fun _ => true) (fun k : Nat => AV.str (strMul ⟨#[c]⟩ (0 + (k : Int) + 1))) (List.range n) [] (by simp; omega) fun k hk => ⟨_, rfl, rfl, fun _ => wpR_eq (by
        have := List.mem_range.mp hk
        try simp -implicitDefEqProofs only [List.map_cons, List.map_nil, List.cons_append, List.nil_append, List.replicate, List.set_cons_succ, List.set_cons_zero, wipeG, wpS_then, wpS_set, wpS_if, wpS_mret, wpS_retN, wpS_mnext, wpS_mbrk, wpS_mcnt, wpS_exp, wpS_asg, wpS_for, w_c, w_bin, w_un, w_ifE, w_andV, w_orV, w_notV, w_call, w_chain, w_meth, w_meth0, w_sl, w_noPart, w_part, w_nil, w_cons, w_bl, w_tru, w_and, w_or, w_not, w_lcV, w_lcR, w_lc, w_seq, w_rng1, w_rng2, w_var0, w_var1, w_var2, w_var3, w_var4, w_var5, w_var6, w_var7, w_var8, w_var9, w_var10, w_var11, w_var12, w_var13, w_var14, w_var15, w_var16, w_var17, w_var18, w_var19, w_var20, w_dictT, w_dictK, w_callK, wpR_ok, wpR_sized, v_nm, v_addI, v_addS, v_addT, v_addL, v_sub, v_neg, w_mul, w_div, w_mod, w_pow, v_ordI, v_eqI, v_neI, v_eqS, v_neS, v_lenS, v_lenL, v_lenF, v_lenT, v_truB, v_seqS, v_seqT, v_seqL, v_seqF, v_listT, v_listL, v_tupleL, v_tupleT, v_tupD, v_lstD, v_lstR, v_slT, v_slL, v_slF, w_slS, defD_rt, defD_nx, defD_ex, defD_bk, defD_ct, AV.bl.injEq, AV.int.injEq, Option.some.injEq, exists_eq_left', tyS, if_true, if_false, Bool.false_eq_true, true_and, and_true, w_mulS]
        exact ⟨by omega, by omega, (show 1 ≤ 1000 by decide)⟩)⟩
      rw [hn]
      rwa [List.nil_append] at this
    have hf : ((List.range n).filter fun _ => true) = List.range n := List.filter_eq_self.mpr fun _ _ => rfl
    rw [hf] at hl
    rw [hl]
    try simp -implicitDefEqProofs only [List.map_cons, List.map_nil, List.cons_append, List.nil_append, List.replicate, List.set_cons_succ, List.set_cons_zero, wipeG, wpS_then, wpS_set, wpS_if, wpS_mret, wpS_retN, wpS_mnext, wpS_mbrk, wpS_mcnt, wpS_exp, wpS_asg, wpS_for, w_c, w_bin, w_un, w_ifE, w_andV, w_orV, w_notV, w_call, w_chain, w_meth, w_meth0, w_sl, w_noPart, w_part, w_nil, w_cons, w_bl, w_tru, w_and, w_or, w_not, w_lcV, w_lcR, w_lc, w_seq, w_rng1, w_rng2, w_var0, w_var1, w_var2, w_var3, w_var4, w_var5, w_var6, w_var7, w_var8, w_var9, w_var10, w_var11, w_var12, w_var13, w_var14, w_var15, w_var16, w_var17, w_var18, w_var19, w_var20, w_dictT, w_dictK, w_callK, wpR_ok, wpR_sized, v_nm, v_addI, v_addS, v_addT, v_addL, v_sub, v_neg, w_mul, w_div, w_mod, w_pow, v_ordI, v_eqI, v_neI, v_eqS, v_neS, v_lenS, v_lenL, v_lenF, v_lenT, v_truB, v_seqS, v_seqT, v_seqL, v_seqF, v_listT, v_listL, v_tupleL, v_tupleT, v_tupD, v_lstD, v_lstR, v_slT, v_slL, v_slF, w_slS, defD_rt, defD_nx, defD_ex, defD_bk, defD_ct, AV.bl.injEq, AV.int.injEq, Option.some.injEq, exists_eq_left', tyS, if_true, if_false, Bool.false_eq_true, true_and, and_true, w_mulS]
    have hw : Wds n ((List.range n).map fun k : Nat => strMul ⟨#[c]⟩ (0 + (k : Int) + 1)) := by
      refine ⟨by simp, fun x hx => ?_⟩
      obtain ⟨k, hk, rfl⟩ := List.mem_map.mp hx
      have := List.mem_range.mp hk
      exact (tx_mul (tx_chr hc) _).mono (by omega) fun _ h => h
    have he : ((List.range n).map fun k : Nat => AV.str (strMul ⟨#[c]⟩ (0 + (k : Int) + 1))) = ((List.range n).map fun k : Nat => strMul ⟨#[c]⟩ (0 + (k : Int) + 1)).map .str := by rw [List.map_map]; rfl
    rw [he]
    generalize ((List.range n).map fun k : Nat => strMul ⟨#[c]⟩ (0 + (k : Int) + 1)) = ws at hw ⊢
    refine d_draw h0 h2 (by decide) (by decide) fun d M3 d0 d1 h3 => ?_
    try simp -implicitDefEqProofs only [List.map_cons, List.map_nil, List.cons_append, List.nil_append, List.replicate, List.set_cons_succ, List.set_cons_zero, wipeG, wpS_then, wpS_set, wpS_if, wpS_mret, wpS_retN, wpS_mnext, wpS_mbrk, wpS_mcnt, wpS_exp, wpS_asg, wpS_for, w_c, w_bin, w_un, w_ifE, w_andV, w_orV, w_notV, w_call, w_chain, w_meth, w_meth0, w_sl, w_noPart, w_part, w_nil, w_cons, w_bl, w_tru, w_and, w_or, w_not, w_lcV, w_lcR, w_lc, w_seq, w_rng1, w_rng2, w_var0, w_var1, w_var2, w_var3, w_var4, w_var5, w_var6, w_var7, w_var8, w_var9, w_var10, w_var11, w_var12, w_var13, w_var14, w_var15, w_var16, w_var17, w_var18, w_var19, w_var20, w_dictT, w_dictK, w_callK, wpR_ok, wpR_sized, v_nm, v_addI, v_addS, v_addT, v_addL, v_sub, v_neg, w_mul, w_div, w_mod, w_pow, v_ordI, v_eqI, v_neI, v_eqS, v_neS, v_lenS, v_lenL, v_lenF, v_lenT, v_truB, v_seqS, v_seqT, v_seqL, v_seqF, v_listT, v_listL, v_tupleL, v_tupleT, v_tupD, v_lstD, v_lstR, v_slT, v_slL, v_slF, w_slS, defD_rt, defD_nx, defD_ex, defD_bk, defD_ct, AV.bl.injEq, AV.int.injEq, Option.some.injEq, exists_eq_left', tyS, if_true, if_false, Bool.false_eq_true, true_and, and_true]
    refine ⟨mulOk_left (by decide), ?_⟩
    have hd : d = 0 ∨ d = 1 := by omega
    rcases hd with rfl | rfl
    · rw [show (1 : Int) - 2 * 0 = 1 by omega, v_stepL1, wpR_ok]
      refine ⟨[], by rwa [List.append_nil], .inl ⟨?_, fun M4 h4 => q ws M4 hw h4⟩⟩
      simp only [plain, List.all_eq_true]
      exact fun x hx => plain_mono 0 59 x (by omega) (by obtain ⟨y, _, rfl⟩ := List.mem_map.mp hx; rfl)
    · rw [show (1 : Int) - 2 * 1 = -1 by omega, v_stepL2, wpR_ok]
      refine ⟨[], by rwa [List.append_nil], .inl ⟨?_, fun M4 h4 => ?_⟩⟩
      · simp only [plain, List.all_eq_true]
        exact fun x hx => plain_mono 0 59 x (by omega) (by obtain ⟨y, _, rfl⟩ := List.mem_map.mp (List.mem_reverse.mp hx); rfl)
      · rw [← List.map_reverse]
        exact q ws.reverse M4 ⟨by simp [hw.1], fun x hx => hw.2 x (List.mem_reverse.mp hx)⟩ h4
  · try simp -implicitDefEqProofs only [List.map_cons, List.map_nil, List.cons_append, List.nil_append, List.replicate, List.set_cons_succ, List.set_cons_zero, wipeG, wpS_then, wpS_set, wpS_if, wpS_mret, wpS_retN, wpS_mnext, wpS_mbrk, wpS_mcnt, wpS_exp, wpS_asg, wpS_for, w_c, w_bin, w_un, w_ifE, w_andV, w_orV, w_notV, w_call, w_chain, w_meth, w_meth0, w_sl, w_noPart, w_part, w_nil, w_cons, w_bl, w_tru, w_and, w_or, w_not, w_lcV, w_lcR, w_lc, w_seq, w_rng1, w_rng2, w_var0, w_var1, w_var2, w_var3, w_var4, w_var5, w_var6, w_var7, w_var8, w_var9, w_var10, w_var11, w_var12, w_var13, w_var14, w_var15, w_var16, w_var17, w_var18, w_var19, w_var20, w_dictT, w_dictK, w_callK, wpR_ok, wpR_sized, v_nm, v_addI, v_addS, v_addT, v_addL, v_sub, v_neg, w_mul, w_div, w_mod, w_pow, v_ordI, v_eqI, v_neI, v_eqS, v_neS, v_lenS, v_lenL, v_lenF, v_lenT, v_truB, v_seqS, v_seqT, v_seqL, v_seqF, v_listT, v_listL, v_tupleL, v_tupleT, v_tupD, v_lstD, v_lstR, v_slT, v_slL, v_slF, w_slS, defD_rt, defD_nx, defD_ex, defD_bk, defD_ct, AV.bl.injEq, AV.int.injEq, Option.some.injEq, exists_eq_left', tyS, if_true, if_false, Bool.false_eq_true, true_and, and_true, w_mulS]
    refine d_draw h0 h1 (by decide) (by decide) fun m M2 m0 m1 h2 => ?_
    rw [w_gRng1 (by unfold rngOk; simp; omega)]
    refine wp_lcl (fun acc M => Sgs AnyC 1 acc ∧ Fs rest fz M) _ _ _ (by rw [rng_len]; simp; omega) ⟨Sgs.nil, h2⟩ ?_ ?_
    · rintro k _ acc M ⟨hs, hF⟩
      try simp -implicitDefEqProofs only [List.map_cons, List.map_nil, List.cons_append, List.nil_append, List.replicate, List.set_cons_succ, List.set_cons_zero, wipeG, wpS_then, wpS_set, wpS_if, wpS_mret, wpS_retN, wpS_mnext, wpS_mbrk, wpS_mcnt, wpS_exp, wpS_asg, wpS_for, w_c, w_bin, w_un, w_ifE, w_andV, w_orV, w_notV, w_call, w_chain, w_meth, w_meth0, w_sl, w_noPart, w_part, w_nil, w_cons, w_bl, w_tru, w_and, w_or, w_not, w_lcV, w_lcR, w_lc, w_seq, w_rng1, w_rng2, w_var0, w_var1, w_var2, w_var3, w_var4, w_var5, w_var6, w_var7, w_var8, w_var9, w_var10, w_var11, w_var12, w_var13, w_var14, w_var15, w_var16, w_var17, w_var18, w_var19, w_var20, w_dictT, w_dictK, w_callK, wpR_ok, wpR_sized, v_nm, v_addI, v_addS, v_addT, v_addL, v_sub, v_neg, w_mul, w_div, w_mod, w_pow, v_ordI, v_eqI, v_neI, v_eqS, v_neS, v_lenS, v_lenL, v_lenF, v_lenT, v_truB, v_seqS, v_seqT, v_seqL, v_seqF, v_listT, v_listL, v_tupleL, v_tupleT, v_tupD, v_lstD, v_lstR, v_slT, v_slL, v_slF, w_slS, defD_rt, defD_nx, defD_ex, defD_bk, defD_ct, AV.bl.injEq, AV.int.injEq, Option.some.injEq, exists_eq_left', tyS, if_true, if_false, Bool.false_eq_true, true_and, and_true]
      refine d_draw h0 hF (by omega) (by omega) fun n M2 n0 n1 h2 => ?_
      exact w_sign a26 (by decide) n0 (by omega) fun c hc => ⟨hs.snoc ⟨_, rfl, tx_chr hc⟩, h2⟩
    · rintro acc M3 hl ⟨hs, h3⟩
      rw [rng_len] at hl
      refine w_join (n := 6) hs (by simp at hl; omega) (by decide) fun x hx => ?_
      have hxl := hx.len
      try simp -implicitDefEqProofs only [List.map_cons, List.map_nil, List.cons_append, List.nil_append, List.replicate, List.set_cons_succ, List.set_cons_zero, wipeG, wpS_then, wpS_set, wpS_if, wpS_mret, wpS_retN, wpS_mnext, wpS_mbrk, wpS_mcnt, wpS_exp, wpS_asg, wpS_for, w_c, w_bin, w_un, w_ifE, w_andV, w_orV, w_notV, w_call, w_chain, w_meth, w_meth0, w_sl, w_noPart, w_part, w_nil, w_cons, w_bl, w_tru, w_and, w_or, w_not, w_lcV, w_lcR, w_lc, w_seq, w_rng1, w_rng2, w_var0, w_var1, w_var2, w_var3, w_var4, w_var5, w_var6, w_var7, w_var8, w_var9, w_var10, w_var11, w_var12, w_var13, w_var14, w_var15, w_var16, w_var17, w_var18, w_var19, w_var20, w_dictT, w_dictK, w_callK, wpR_ok, wpR_sized, v_nm, v_addI, v_addS, v_addT, v_addL, v_sub, v_neg, w_mul, w_div, w_mod, w_pow, v_ordI, v_eqI, v_neI, v_eqS, v_neS, v_lenS, v_lenL, v_lenF, v_lenT, v_truB, v_seqS, v_seqT, v_seqL, v_seqF, v_listT, v_listL, v_tupleL, v_tupleT, v_tupD, v_lstD, v_lstR, v_slT, v_slL, v_slF, w_slS, defD_rt, defD_nx, defD_ex, defD_bk, defD_ct, AV.bl.injEq, AV.int.injEq, Option.some.injEq, exists_eq_left', tyS, if_true, if_false, Bool.false_eq_true, true_and, and_true, w_mulS]
      refine ⟨by omega, ?_⟩
      refine d_draw h0 h3 (by omega) (by omega) fun at' M4 t0 t1 h4 => ?_
      try simp -implicitDefEqProofs only [List.map_cons, List.map_nil, List.cons_append, List.nil_append, List.replicate, List.set_cons_succ, List.set_cons_zero, wipeG, wpS_then, wpS_set, wpS_if, wpS_mret, wpS_retN, wpS_mnext, wpS_mbrk, wpS_mcnt, wpS_exp, wpS_asg, wpS_for, w_c, w_bin, w_un, w_ifE, w_andV, w_orV, w_notV, w_call, w_chain, w_meth, w_meth0, w_sl, w_noPart, w_part, w_nil, w_cons, w_bl, w_tru, w_and, w_or, w_not, w_lcV, w_lcR, w_lc, w_seq, w_rng1, w_rng2, w_var0, w_var1, w_var2, w_var3, w_var4, w_var5, w_var6, w_var7, w_var8, w_var9, w_var10, w_var11, w_var12, w_var13, w_var14, w_var15, w_var16, w_var17, w_var18, w_var19, w_var20, w_dictT, w_dictK, w_callK, wpR_ok, wpR_sized, v_nm, v_addI, v_addS, v_addT, v_addL, v_sub, v_neg, w_mul, w_div, w_mod, w_pow, v_ordI, v_eqI, v_neI, v_eqS, v_neS, v_lenS, v_lenL, v_lenF, v_lenT, v_truB, v_seqS, v_seqT, v_seqL, v_seqF, v_listT, v_listL, v_tupleL, v_tupleT, v_tupD, v_lstD, v_lstR, v_slT, v_slL, v_slF, w_slS, defD_rt, defD_nx, defD_ex, defD_bk, defD_ct, AV.bl.injEq, AV.int.injEq, Option.some.injEq, exists_eq_left', tyS, if_true, if_false, Bool.false_eq_true, true_and, and_true, w_mulS]
      refine d_draw h0 h4 (by omega) (by omega) fun start M5 s0 s1 h5 => ?_
      try simp -implicitDefEqProofs only [List.map_cons, List.map_nil, List.cons_append, List.nil_append, List.replicate, List.set_cons_succ, List.set_cons_zero, wipeG, wpS_then, wpS_set, wpS_if, wpS_mret, wpS_retN, wpS_mnext, wpS_mbrk, wpS_mcnt, wpS_exp, wpS_asg, wpS_for, w_c, w_bin, w_un, w_ifE, w_andV, w_orV, w_notV, w_call, w_chain, w_meth, w_meth0, w_sl, w_noPart, w_part, w_nil, w_cons, w_bl, w_tru, w_and, w_or, w_not, w_lcV, w_lcR, w_lc, w_seq, w_rng1, w_rng2, w_var0, w_var1, w_var2, w_var3, w_var4, w_var5, w_var6, w_var7, w_var8, w_var9, w_var10, w_var11, w_var12, w_var13, w_var14, w_var15, w_var16, w_var17, w_var18, w_var19, w_var20, w_dictT, w_dictK, w_callK, wpR_ok, wpR_sized, v_nm, v_addI, v_addS, v_addT, v_addL, v_sub, v_neg, w_mul, w_div, w_mod, w_pow, v_ordI, v_eqI, v_neI, v_eqS, v_neS, v_lenS, v_lenL, v_lenF, v_lenT, v_truB, v_seqS, v_seqT, v_seqL, v_seqF, v_listT, v_listL, v_tupleL, v_tupleT, v_tupD, v_lstD, v_lstR, v_slT, v_slL, v_slF, w_slS, defD_rt, defD_nx, defD_ex, defD_bk, defD_ct, AV.bl.injEq, AV.int.injEq, Option.some.injEq, exists_eq_left', tyS, if_true, if_false, Bool.false_eq_true, true_and, and_true, w_mulS]
      refine ⟨by simp, ?_⟩
      refine d_draw h0 h5 (by omega) (by omega) fun si M6 si0 si1 h6 => ?_
      refine w_one si0 (by simp; omega) fun sp hsp => ?_
      have hsp : ∃ sp' : Int, sp = .int sp' ∧ 0 ≤ sp' ∧ sp' ≤ 25 := by
        simp only [List.mem_cons, List.not_mem_nil, or_false] at hsp
        rcases hsp with rfl | rfl | rfl | rfl | rfl | rfl <;> exact ⟨_, rfl, by omega, by omega⟩
      obtain ⟨sp, rfl, sp0, sp1⟩ := hsp
      try simp -implicitDefEqProofs only [List.map_cons, List.map_nil, List.cons_append, List.nil_append, List.replicate, List.set_cons_succ, List.set_cons_zero, wipeG, wpS_then, wpS_set, wpS_if, wpS_mret, wpS_retN, wpS_mnext, wpS_mbrk, wpS_mcnt, wpS_exp, wpS_asg, wpS_for, w_c, w_bin, w_un, w_ifE, w_andV, w_orV, w_notV, w_call, w_chain, w_meth, w_meth0, w_sl, w_noPart, w_part, w_nil, w_cons, w_bl, w_tru, w_and, w_or, w_not, w_lcV, w_lcR, w_lc, w_seq, w_rng1, w_rng2, w_var0, w_var1, w_var2, w_var3, w_var4, w_var5, w_var6, w_var7, w_var8, w_var9, w_var10, w_var11, w_var12, w_var13, w_var14, w_var15, w_var16, w_var17, w_var18, w_var19, w_var20, w_dictT, w_dictK, w_callK, wpR_ok, wpR_sized, v_nm, v_addI, v_addS, v_addT, v_addL, v_sub, v_neg, w_mul, w_div, w_mod, w_pow, v_ordI, v_eqI, v_neI, v_eqS, v_neS, v_lenS, v_lenL, v_lenF, v_lenT, v_truB, v_seqS, v_seqT, v_seqL, v_seqF, v_listT, v_listL, v_tupleL, v_tupleT, v_tupD, v_lstD, v_lstR, v_slT, v_slL, v_slF, w_slS, defD_rt, defD_nx, defD_ex, defD_bk, defD_ct, AV.bl.injEq, AV.int.injEq, Option.some.injEq, exists_eq_left', tyS, if_true, if_false, Bool.false_eq_true, true_and, and_true, w_mulS]
      refine ⟨by simp, ?_⟩
      rw [h6.len]
      have h7 := h6.push (.lst [])
      rw [w_gRng1 (by unfold rngOk; simp; omega)]
      have hn : (n : Int).toNat = n := by omega
      refine wp_loop (fun k G M => (∃ ws : List Str, Wds k ws ∧ Fs (rest ++ [.lst (ws.map .str)]) fz M) ∧ ∃ g5 g11 g12, G = [some (.ref 0), some (.int (n : Int)), some (.str abc), some (.int r), none, g5, some (.str x), some (.int at'), some (.int start), some (.int sp), some (.ref (rest.length + 1)), g11, g12]) _ 0 _ _ ⟨⟨[], ⟨rfl, by simp⟩, h7⟩, _, _, _, rfl⟩ ?_ ?_
      · rintro j a G M hj ⟨⟨ws, hw, hF⟩, g5, g11, g12, rfl⟩
        have hj2 : j < n := by
          have := (List.getElem?_eq_some_iff.mp hj).1
          rw [rng_len, hn] at this
          exact this
        obtain ⟨k, hk, rfl⟩ := mem_rng (List.mem_of_getElem? hj)
        try simp -implicitDefEqProofs only [List.map_cons, List.map_nil, List.cons_append, List.nil_append, List.replicate, List.set_cons_succ, List.set_cons_zero, wipeG, wpS_then, wpS_set, wpS_if, wpS_mret, wpS_retN, wpS_mnext, wpS_mbrk, wpS_mcnt, wpS_exp, wpS_asg, wpS_for, w_c, w_bin, w_un, w_ifE, w_andV, w_orV, w_notV, w_call, w_chain, w_meth, w_meth0, w_sl, w_noPart, w_part, w_nil, w_cons, w_bl, w_tru, w_and, w_or, w_not, w_lcV, w_lcR, w_lc, w_seq, w_rng1, w_rng2, w_var0, w_var1, w_var2, w_var3, w_var4, w_var5, w_var6, w_var7, w_var8, w_var9, w_var10, w_var11, w_var12, w_var13, w_var14, w_var15, w_var16, w_var17, w_var18, w_var19, w_var20, w_dictT, w_dictK, w_callK, wpR_ok, wpR_sized, v_nm, v_addI, v_addS, v_addT, v_addL, v_sub, v_neg, w_mul, w_div, w_mod, w_pow, v_ordI, v_eqI, v_neI, v_eqS, v_neS, v_lenS, v_lenL, v_lenF, v_lenT, v_truB, v_seqS, v_seqT, v_seqL, v_seqF, v_listT, v_listL, v_tupleL, v_tupleT, v_tupD, v_lstD, v_lstR, v_slT, v_slL, v_slF, w_slS, defD_rt, defD_nx, defD_ex, defD_bk, defD_ct, AV.bl.injEq, AV.int.injEq, Option.some.injEq, exists_eq_left', tyS, if_true, if_false, Bool.false_eq_true, true_and, and_true, w_mulS]
        refine d_draw h0 hF (by omega) (by omega) fun c M2 c0 c1 h2 => ?_
        refine w_sign a26 (by decide) c0 (by omega) fun c hc => ?_
        try simp -implicitDefEqProofs only [List.map_cons, List.map_nil, List.cons_append, List.nil_append, List.replicate, List.set_cons_succ, List.set_cons_zero, wipeG, wpS_then, wpS_set, wpS_if, wpS_mret, wpS_retN, wpS_mnext, wpS_mbrk, wpS_mcnt, wpS_exp, wpS_asg, wpS_for, w_c, w_bin, w_un, w_ifE, w_andV, w_orV, w_notV, w_call, w_chain, w_meth, w_meth0, w_sl, w_noPart, w_part, w_nil, w_cons, w_bl, w_tru, w_and, w_or, w_not, w_lcV, w_lcR, w_lc, w_seq, w_rng1, w_rng2, w_var0, w_var1, w_var2, w_var3, w_var4, w_var5, w_var6, w_var7, w_var8, w_var9, w_var10, w_var11, w_var12, w_var13, w_var14, w_var15, w_var16, w_var17, w_var18, w_var19, w_var20, w_dictT, w_dictK, w_callK, wpR_ok, wpR_sized, v_nm, v_addI, v_addS, v_addT, v_addL, v_sub, v_neg, w_mul, w_div, w_mod, w_pow, v_ordI, v_eqI, v_neI, v_eqS, v_neS, v_lenS, v_lenL, v_lenF, v_lenT, v_truB, v_seqS, v_seqT, v_seqL, v_seqF, v_listT, v_listL, v_tupleL, v_tupleT, v_tupD, v_lstD, v_lstR, v_slT, v_slL, v_slF, w_slS, defD_rt, defD_nx, defD_ex, defD_bk, defD_ct, AV.bl.injEq, AV.int.injEq, Option.some.injEq, exists_eq_left', tyS, if_true, if_false, Bool.false_eq_true, true_and, and_true, w_mulS]
        refine d_draw h0 h2 (by omega) (by omega) fun u M3 u0 u1 h3 => ?_
        try simp -implicitDefEqProofs only [List.map_cons, List.map_nil, List.cons_append, List.nil_append, List.replicate, List.set_cons_succ, List.set_cons_zero, wipeG, wpS_then, wpS_set, wpS_if, wpS_mret, wpS_retN, wpS_mnext, wpS_mbrk, wpS_mcnt, wpS_exp, wpS_asg, wpS_for, w_c, w_bin, w_un, w_ifE, w_andV, w_orV, w_notV, w_call, w_chain, w_meth, w_meth0, w_sl, w_noPart, w_part, w_nil, w_cons, w_bl, w_tru, w_and, w_or, w_not, w_lcV, w_lcR, w_lc, w_seq, w_rng1, w_rng2, w_var0, w_var1, w_var2, w_var3, w_var4, w_var5, w_var6, w_var7, w_var8, w_var9, w_var10, w_var11, w_var12, w_var13, w_var14, w_var15, w_var16, w_var17, w_var18, w_var19, w_var20, w_dictT, w_dictK, w_callK, wpR_ok, wpR_sized, v_nm, v_addI, v_addS, v_addT, v_addL, v_sub, v_neg, w_mul, w_div, w_mod, w_pow, v_ordI, v_eqI, v_neI, v_eqS, v_neS, v_lenS, v_lenL, v_lenF, v_lenT, v_truB, v_seqS, v_seqT, v_seqL, v_seqF, v_listT, v_listL, v_tupleL, v_tupleT, v_tupD, v_lstD, v_lstR, v_slT, v_slL, v_slF, w_slS, defD_rt, defD_nx, defD_ex, defD_bk, defD_ct, AV.bl.injEq, AV.int.injEq, Option.some.injEq, exists_eq_left', tyS, if_true, if_false, Bool.false_eq_true, true_and, and_true, w_mulS]
        refine ⟨⟨u0, by omega, (show 1 ≤ 1000 by decide)⟩, mulOk_left (lt31 (by omega)), by omega, ?_⟩
        have hm := fmod_lt (i := start + (0 + (k : Int)) * sp) (k := 26) (by omega)
        refine w_sign a26 (by decide) hm.1 (by omega) fun c2 hc2 => ?_
        try simp -implicitDefEqProofs only [List.map_cons, List.map_nil, List.cons_append, List.nil_append, List.replicate, List.set_cons_succ, List.set_cons_zero, wipeG, wpS_then, wpS_set, wpS_if, wpS_mret, wpS_retN, wpS_mnext, wpS_mbrk, wpS_mcnt, wpS_exp, wpS_asg, wpS_for, w_c, w_bin, w_un, w_ifE, w_andV, w_orV, w_notV, w_call, w_chain, w_meth, w_meth0, w_sl, w_noPart, w_part, w_nil, w_cons, w_bl, w_tru, w_and, w_or, w_not, w_lcV, w_lcR, w_lc, w_seq, w_rng1, w_rng2, w_var0, w_var1, w_var2, w_var3, w_var4, w_var5, w_var6, w_var7, w_var8, w_var9, w_var10, w_var11, w_var12, w_var13, w_var14, w_var15, w_var16, w_var17, w_var18, w_var19, w_var20, w_dictT, w_dictK, w_callK, wpR_ok, wpR_sized, v_nm, v_addI, v_addS, v_addT, v_addL, v_sub, v_neg, w_mul, w_div, w_mod, w_pow, v_ordI, v_eqI, v_neI, v_eqS, v_neS, v_lenS, v_lenL, v_lenF, v_lenT, v_truB, v_seqS, v_seqT, v_seqL, v_seqF, v_listT, v_listL, v_tupleL, v_tupleT, v_tupD, v_lstD, v_lstR, v_slT, v_slL, v_slF, w_slS, defD_rt, defD_nx, defD_ex, defD_bk, defD_ct, AV.bl.injEq, AV.int.injEq, Option.some.injEq, exists_eq_left', tyS, if_true, if_false, Bool.false_eq_true, true_and, and_true, w_mulS]
        have hg : (rest ++ [AV.lst (ws.map .str)])[rest.length]? = some (.lst (ws.map .str)) := by simp
        have t1 := tx_cut hx none (some at')
        have t2 := tx_cut hx (some at') none
        have l1 := cut_len x none (some at')
        have ha : at' = ((at'.toNat : Nat) : Int) := by omega
        rw [ha, HT.sIx_nat] at l1
        have l0 : HT.sIx x.length 0 none = 0 := rfl
        rw [l0, ← ha] at l1
        have l2 := cut_len x (some at') none
        rw [ha, HT.sIx_nat, ← ha] at l2
        have e2 : HT.sIx x.length x.length none = x.length := rfl
        rw [e2] at l2
        have lc : (⟨#[c2]⟩ : Str).length = 1 := rfl
        have tm := tx_mul (tx_chr hc) u
        have lm := tm.len
        have lt := tx_app (tx_app (tx_app t1 (tx_chr hc2)) t2) tm
        refine ⟨f_tyL h3 hg, (by (try simp only [strLen_append]); omega), (by (try simp only [strLen_append]); omega), (by (try simp only [strLen_append]); omega), (by (try simp only [strLen_append]); omega), (by (try simp only [strLen_append]); omega), ?_⟩
        refine f_append h3 hg (by rw [List.length_map, hw.1]; omega) fun M4 h4 => ?_
        have es : (rest ++ [AV.lst (ws.map .str)]).set rest.length (.lst (ws.map .str ++ [.str (cutS x none (some at') ++ ⟨#[c2]⟩ ++ cutS x (some at') none ++ strMul ⟨#[c]⟩ u)])) = rest ++ [.lst ((ws ++ [cutS x none (some at') ++ ⟨#[c2]⟩ ++ cutS x (some at') none ++ strMul ⟨#[c]⟩ u]).map .str)] := by simp
        rw [es] at h4
        refine ⟨⟨_, ⟨by simp [hw.1], fun y hy => ?_⟩, h4⟩, _, _, _, rfl⟩
        rcases List.mem_append.mp hy with z | z
        · exact hw.2 y z
        · rw [List.mem_singleton.mp z]
          refine ⟨?_, lt.all⟩
          rw [strLen_append, strLen_append, strLen_append]
          omega
      · rintro G M ⟨⟨ws, hw, hF⟩, g5, g11, g12, rfl⟩
        rw [rng_len, hn, Nat.zero_add] at hw
        try simp -implicitDefEqProofs only [List.map_cons, List.map_nil, List.cons_append, List.nil_append, List.replicate, List.set_cons_succ, List.set_cons_zero, wipeG, wpS_then, wpS_set, wpS_if, wpS_mret, wpS_retN, wpS_mnext, wpS_mbrk, wpS_mcnt, wpS_exp, wpS_asg, wpS_for, w_c, w_bin, w_un, w_ifE, w_andV, w_orV, w_notV, w_call, w_chain, w_meth, w_meth0, w_sl, w_noPart, w_part, w_nil, w_cons, w_bl, w_tru, w_and, w_or, w_not, w_lcV, w_lcR, w_lc, w_seq, w_rng1, w_rng2, w_var0, w_var1, w_var2, w_var3, w_var4, w_var5, w_var6, w_var7, w_var8, w_var9, w_var10, w_var11, w_var12, w_var13, w_var14, w_var15, w_var16, w_var17, w_var18, w_var19, w_var20, w_dictT, w_dictK, w_callK, wpR_ok, wpR_sized, v_nm, v_addI, v_addS, v_addT, v_addL, v_sub, v_neg, w_mul, w_div, w_mod, w_pow, v_ordI, v_eqI, v_neI, v_eqS, v_neS, v_lenS, v_lenL, v_lenF, v_lenT, v_truB, v_seqS, v_seqT, v_seqL, v_seqF, v_listT, v_listL, v_tupleL, v_tupleT, v_tupD, v_lstD, v_lstR, v_slT, v_slL, v_slF, w_slS, defD_rt, defD_nx, defD_ex, defD_bk, defD_ct, AV.bl.injEq, AV.int.injEq, Option.some.injEq, exists_eq_left', tyS, if_true, if_false, Bool.false_eq_true, true_and, and_true]
        refine ⟨_, hF, .inr ⟨0, _, rfl, rfl, plain_strs ws, fun M4 h4 => q ws M4 hw h4⟩⟩
end
end Px

/-! Px10: the world of changes: its state, a deed drawn. -/
namespace Px
open PySem hiding Env plain
open L2 Mx StrLaws PySem.W
structure Rc where
  nm : Nm
  hand : Str
  base : List Nm
  deed : AV
  floor : List Nm
def recA (r : Rc) : AV := .tup [nameA r.nm, .str r.hand, .tup (r.base.map nameA), r.deed]
def flA (r : Rc) : AV := .lst (r.floor.map nameA)
abbrev namesW (w : List Rc) : List Nm := w.map (·.nm)
abbrev chK (w : List Rc) : List (List Key × AV) := byN Rc.nm recA w
abbrev knK (w : List Rc) : List (List Key × AV) := byN Rc.nm flA w
def laK (l : List (Str × Nm)) : List (Key × AV) := l.map fun p => (.inr p.1, nameA p.2)
abbrev wdL : List (Key × AV) := [(.inr "changes", .ref 1), (.inr "knows", .ref 2), (.inr "last", .ref 3), (.inr "hangs", .ref 4)]
def wdA : AV := .dK wdL
def wrest (w : List Rc) (l : List (Str × Nm)) (h : List Nm) : List AV := [.dT (chK w), .dT (knK w), .dK (laK l), .lst (h.map nameA), wdA]
theorem wd_ch : getK wdL (.inr ("changes" : Str)) = some (.ref 1) := by kernel_rfl
theorem wd_kn : getK wdL (.inr ("knows" : Str)) = some (.ref 2) := by kernel_rfl
theorem wd_la : getK wdL (.inr ("last" : Str)) = some (.ref 3) := by kernel_rfl
theorem wd_ha : getK wdL (.inr ("hangs" : Str)) = some (.ref 4) := by kernel_rfl
structure NmOk (n : Nm) : Prop where
  lo : 1 ≤ n.1
  hi : n.1 ≤ 100
  tx : Tx AnyC 20 n.2
theorem NmOk.sh {n : Nm} (h : NmOk n) : Sh 1 411 (nameA n) := by
  have h1 := h.lo
  have h2 := h.hi
  refine (sh_tup (d := 0) (n := 202) fun a ha => ?_).mono (by decide) (by simp)
  simp only [List.mem_cons, List.not_mem_nil, or_false] at ha
  rcases ha with rfl | rfl
  · exact (sh_int 3 (by omega) (by decide) (by decide)).mono (by decide) (by decide)
  · exact h.tx.sh.mono (by decide) (by decide)
structure DeedOk (d : AV) : Prop where
  sh : Sh 2 2068 d
  hd : ∃ s r, d = .tup (.str s :: r)
theorem deed_ok {s : Str} {r : List AV} (hs : Tx AnyC 20 s) (hr : ∀ a ∈ r, Sh 1 411 a) (hl : r.length ≤ 4) : DeedOk (.tup (.str s :: r)) := by
  refine ⟨(sh_tup (d := 1) (n := 411) fun a ha => ?_).mono (by decide) (by simp; omega), _, _, rfl⟩
  rcases List.mem_cons.mp ha with rfl | ha
  · exact hs.sh.mono (by decide) (by decide)
  · exact hr a ha
section
variable {w : List Rc} {l : List (Str × Nm)} {h : List Nm} {tmp : List AV} {M : AH} {P : AV → AH → Prop} {E : Str → List (Str × AV) → AH → Prop} {G : Env}
theorem w_ch (hM : Fs (wrest w l h ++ tmp) [] M) : gIx (.ref 5) (.str "changes") M = .ok (.ref 1) M := f_ixK (i := 4) hM rfl rfl wd_ch
theorem w_kn (hM : Fs (wrest w l h ++ tmp) [] M) : gIx (.ref 5) (.str "knows") M = .ok (.ref 2) M := f_ixK (i := 4) hM rfl rfl wd_kn
theorem w_la (hM : Fs (wrest w l h ++ tmp) [] M) : gIx (.ref 5) (.str "last") M = .ok (.ref 3) M := f_ixK (i := 4) hM rfl rfl wd_la
theorem w_ha (hM : Fs (wrest w l h ++ tmp) [] M) : gIx (.ref 5) (.str "hangs") M = .ok (.ref 4) M := f_ixK (i := 4) hM rfl rfl wd_ha
theorem w_chAt {r : Rc} (hM : Fs (wrest w l h ++ tmp) [] M) {n : Nm} (hr : (w.find? fun r => decide (r.nm = n)) = some r) : gIx (.ref 1) (nameA n) M = .ok (recA r) M := f_ixT (i := 0) hM rfl (keyT_name n) (by rw [getK_byN, hr]; rfl)
theorem w_knAt {r : Rc} (hM : Fs (wrest w l h ++ tmp) [] M) {n : Nm} (hr : (w.find? fun r => decide (r.nm = n)) = some r) : gIx (.ref 2) (nameA n) M = .ok (flA r) M := f_ixT (i := 1) hM rfl (keyT_name n) (by rw [getK_byN, hr]; rfl)
theorem w_sortCh (hM : Fs (wrest w l h ++ tmp) [] M) : gSorted [.ref 1] M = .ok (.lst ((sortN (namesW w)).map nameA)) M := f_sortN (i := 0) (f := Rc.nm) (g := recA) (w := w) hM rfl
theorem f_len {rest : List AV} {fz : List Nat} {i : Nat} {xs : List AV} (hM : Fs rest fz M) (hx : rest[i]? = some (.lst xs)) : gLen [.ref (i + 1)] M = .ok (.int xs.length) M := by
  have e : M.objs[i + 1]? = some (.lst xs) := by rw [hM.get, hx]
  show gLenO M (.ref (i + 1)) = _
  simp [gLenO, dctK, dctT, itemsOf, lstR, e]
theorem v_inStr (neg : Bool) (x : Str) (L : List Str) : gIn neg (.str x) (.lst (L.map .str)) M = .ok (.bl (if neg then !decide (x ∈ L) else decide (x ∈ L))) M := by
  have h1 : (L.map AV.str).all (plain 60) = true := by
    simp only [List.all_map, List.all_eq_true]
    exact fun n _ => rfl
  have h2 : ((L.map AV.str).any fun z => aeq z (.str x)) = decide (x ∈ L) := by
    rw [Bool.eq_iff_iff]
    simp only [List.any_map, List.any_eq_true, Function.comp, decide_eq_true_eq]
    have e : ∀ y : Str, aeq (.str y) (.str x) = decide (y = x) := fun y => by
      show PyData.eqv (.str y) (.str x) = _
      simp only [PyData.eqv]
      rfl
    constructor
    · rintro ⟨y, hy, q⟩
      rw [e] at q
      exact of_decide_eq_true q ▸ hy
    · exact fun q => ⟨x, q, by rw [e]; simp⟩
  have h3 : inA M (.str x) (.lst (L.map .str)) = some (decide (x ∈ L)) := by
    show (if plain 60 (.str x) && (L.map AV.str).all (plain 60) then some ((L.map AV.str).any fun z => aeq z (.str x)) else none) = _
    rw [h1, h2]
    rfl
  unfold gIn
  rw [h3]
theorem plain_namesL (L : List Nm) : plain 60 (.lst (L.map nameA)) = true := by
  simp only [plain, List.all_map, List.all_eq_true]
  exact fun n _ => rfl
def sortOf (w : List Rc) (n : Nm) : Str := match w.find? (fun r => decide (r.nm = n)) with
  | some r => (match r.deed with
    | .tup (.str s :: _) => s
    | _ => "")
  | none => ""
theorem d_deed {base floor : List Nm} (hM : Fs (wrest w l h ++ tmp) [] M) (hf : ∀ x ∈ floor, x ∈ namesW w) (hw : ∀ r ∈ w, DeedOk r.deed) (hn : ∀ x ∈ floor, NmOk x) (hl : floor.length ≤ 100)
    (q : ∀ d M', DeedOk d → Fs (wrest w l h ++ tmp) [] M' → P d M') : wpR (m_deed [.ref 0, .ref 5, .tup (base.map nameA), .lst (floor.map nameA)] M) P E := by
  refine wp_gcF hM ?_
  have fin : ∀ d M', DeedOk d → Fs (wrest w l h ++ tmp) [] M' → plain 60 d = true ∧ (∃ t, Fs (wrest w l h ++ tmp ++ t) [] M') ∧ ∀ M'', Fs (wrest w l h ++ tmp) [] M'' → P d M'' := fun d M' hd hF => ⟨plain_mono 2 60 d (by decide) hd.sh.pl, hF.ofT, fun M'' hF' => q d M'' hd hF'⟩
  have h0 : 0 ∉ ([] : List Nat) := by simp
  refine wp_def rfl ?_
  unfold deed_b
  have a27 : Tx AnyC 27 ("abcdefghijklmnopqrstuvwxyz " : Str) := ⟨by decide +kernel, by decide +kernel⟩
  have l27 : ("abcdefghijklmnopqrstuvwxyz " : Str).length = 27 := by decide +kernel
  generalize ("abcdefghijklmnopqrstuvwxyz " : Str) = abc at *
  try simp -implicitDefEqProofs only [List.map_cons, List.map_nil, List.cons_append, List.nil_append, List.replicate, List.set_cons_succ, List.set_cons_zero, wipeG, wpS_then, wpS_set, wpS_if, wpS_mret, wpS_retN, wpS_mnext, wpS_mbrk, wpS_mcnt, wpS_exp, wpS_asg, wpS_for, w_c, w_bin, w_un, w_ifE, w_andV, w_orV, w_notV, w_call, w_chain, w_meth, w_meth0, w_sl, w_noPart, w_part, w_nil, w_cons, w_bl, w_tru, w_and, w_or, w_not, w_lcV, w_lcR, w_lc, w_seq, w_rng1, w_rng2, w_var0, w_var1, w_var2, w_var3, w_var4, w_var5, w_var6, w_var7, w_var8, w_var9, w_var10, w_var11, w_var12, w_var13, w_var14, w_var15, w_var16, w_var17, w_var18, w_var19, w_var20, w_dictT, w_dictK, w_callK, wpR_ok, wpR_sized, v_nm, v_addI, v_addS, v_addT, v_addL, v_sub, v_neg, w_mul, w_div, w_mod, w_pow, v_ordI, v_eqI, v_neI, v_eqS, v_neS, v_lenS, v_lenL, v_lenF, v_lenT, v_truB, v_seqS, v_seqT, v_seqL, v_seqF, v_listT, v_listL, v_tupleL, v_tupleT, v_tupD, v_lstD, v_lstR, v_slT, v_slL, v_slF, w_slS, defD_rt, defD_nx, defD_ex, defD_bk, defD_ct, AV.bl.injEq, AV.int.injEq, Option.some.injEq, exists_eq_left', tyS, if_true, if_false, Bool.false_eq_true, true_and, and_true]
  refine d_draw h0 hM (by decide) (by decide) fun m M1 m0 m1 h1 => ?_
  try simp -implicitDefEqProofs only [List.map_cons, List.map_nil, List.cons_append, List.nil_append, List.replicate, List.set_cons_succ, List.set_cons_zero, wipeG, wpS_then, wpS_set, wpS_if, wpS_mret, wpS_retN, wpS_mnext, wpS_mbrk, wpS_mcnt, wpS_exp, wpS_asg, wpS_for, w_c, w_bin, w_un, w_ifE, w_andV, w_orV, w_notV, w_call, w_chain, w_meth, w_meth0, w_sl, w_noPart, w_part, w_nil, w_cons, w_bl, w_tru, w_and, w_or, w_not, w_lcV, w_lcR, w_lc, w_seq, w_rng1, w_rng2, w_var0, w_var1, w_var2, w_var3, w_var4, w_var5, w_var6, w_var7, w_var8, w_var9, w_var10, w_var11, w_var12, w_var13, w_var14, w_var15, w_var16, w_var17, w_var18, w_var19, w_var20, w_dictT, w_dictK, w_callK, wpR_ok, wpR_sized, v_nm, v_addI, v_addS, v_addT, v_addL, v_sub, v_neg, w_mul, w_div, w_mod, w_pow, v_ordI, v_eqI, v_neI, v_eqS, v_neS, v_lenS, v_lenL, v_lenF, v_lenT, v_truB, v_seqS, v_seqT, v_seqL, v_seqF, v_listT, v_listL, v_tupleL, v_tupleT, v_tupD, v_lstD, v_lstR, v_slT, v_slL, v_slF, w_slS, defD_rt, defD_nx, defD_ex, defD_bk, defD_ct, AV.bl.injEq, AV.int.injEq, Option.some.injEq, exists_eq_left', tyS, if_true, if_false, Bool.false_eq_true, true_and, and_true]
  rw [w_gRng1 (by unfold rngOk; simp; omega)]
  refine wp_lcl (fun acc M => Sgs AnyC 1 acc ∧ Fs (wrest w l h ++ tmp) [] M) _ _ _ (by rw [rng_len]; simp; omega) ⟨Sgs.nil, h1⟩ ?_ ?_
  · rintro k _ acc M ⟨hs, hF⟩
    try simp -implicitDefEqProofs only [List.map_cons, List.map_nil, List.cons_append, List.nil_append, List.replicate, List.set_cons_succ, List.set_cons_zero, wipeG, wpS_then, wpS_set, wpS_if, wpS_mret, wpS_retN, wpS_mnext, wpS_mbrk, wpS_mcnt, wpS_exp, wpS_asg, wpS_for, w_c, w_bin, w_un, w_ifE, w_andV, w_orV, w_notV, w_call, w_chain, w_meth, w_meth0, w_sl, w_noPart, w_part, w_nil, w_cons, w_bl, w_tru, w_and, w_or, w_not, w_lcV, w_lcR, w_lc, w_seq, w_rng1, w_rng2, w_var0, w_var1, w_var2, w_var3, w_var4, w_var5, w_var6, w_var7, w_var8, w_var9, w_var10, w_var11, w_var12, w_var13, w_var14, w_var15, w_var16, w_var17, w_var18, w_var19, w_var20, w_dictT, w_dictK, w_callK, wpR_ok, wpR_sized, v_nm, v_addI, v_addS, v_addT, v_addL, v_sub, v_neg, w_mul, w_div, w_mod, w_pow, v_ordI, v_eqI, v_neI, v_eqS, v_neS, v_lenS, v_lenL, v_lenF, v_lenT, v_truB, v_seqS, v_seqT, v_seqL, v_seqF, v_listT, v_listL, v_tupleL, v_tupleT, v_tupD, v_lstD, v_lstR, v_slT, v_slL, v_slF, w_slS, defD_rt, defD_nx, defD_ex, defD_bk, defD_ct, AV.bl.injEq, AV.int.injEq, Option.some.injEq, exists_eq_left', tyS, if_true, if_false, Bool.false_eq_true, true_and, and_true]
    refine d_draw h0 hF (by omega) (by omega) fun n M2 n0 n1 h2 => ?_
    exact w_sign a27 (by decide) n0 (by omega) fun c hc => ⟨hs.snoc ⟨_, rfl, tx_chr hc⟩, h2⟩
  rintro acc M3 hla ⟨hs, h3⟩
  rw [rng_len] at hla
  refine w_join (n := 5) hs (by simp at hla; omega) (by decide) fun x hx => ?_
  have hx5 : Sh 1 411 (.str x) := hx.sh.mono (by decide) (by decide)
  try simp -implicitDefEqProofs only [List.map_cons, List.map_nil, List.cons_append, List.nil_append, List.replicate, List.set_cons_succ, List.set_cons_zero, wipeG, wpS_then, wpS_set, wpS_if, wpS_mret, wpS_retN, wpS_mnext, wpS_mbrk, wpS_mcnt, wpS_exp, wpS_asg, wpS_for, w_c, w_bin, w_un, w_ifE, w_andV, w_orV, w_notV, w_call, w_chain, w_meth, w_meth0, w_sl, w_noPart, w_part, w_nil, w_cons, w_bl, w_tru, w_and, w_or, w_not, w_lcV, w_lcR, w_lc, w_seq, w_rng1, w_rng2, w_var0, w_var1, w_var2, w_var3, w_var4, w_var5, w_var6, w_var7, w_var8, w_var9, w_var10, w_var11, w_var12, w_var13, w_var14, w_var15, w_var16, w_var17, w_var18, w_var19, w_var20, w_dictT, w_dictK, w_callK, wpR_ok, wpR_sized, v_nm, v_addI, v_addS, v_addT, v_addL, v_sub, v_neg, w_mul, w_div, w_mod, w_pow, v_ordI, v_eqI, v_neI, v_eqS, v_neS, v_lenS, v_lenL, v_lenF, v_lenT, v_truB, v_seqS, v_seqT, v_seqL, v_seqF, v_listT, v_listL, v_tupleL, v_tupleT, v_tupD, v_lstD, v_lstR, v_slT, v_slL, v_slF, w_slS, defD_rt, defD_nx, defD_ex, defD_bk, defD_ct, AV.bl.injEq, AV.int.injEq, Option.some.injEq, exists_eq_left', tyS, if_true, if_false, Bool.false_eq_true, true_and, and_true]
  refine d_draw h0 h3 (by decide) (by decide) fun way M4 w0 w1 h4 => ?_
  try simp -implicitDefEqProofs only [List.map_cons, List.map_nil, List.cons_append, List.nil_append, List.replicate, List.set_cons_succ, List.set_cons_zero, wipeG, wpS_then, wpS_set, wpS_if, wpS_mret, wpS_retN, wpS_mnext, wpS_mbrk, wpS_mcnt, wpS_exp, wpS_asg, wpS_for, w_c, w_bin, w_un, w_ifE, w_andV, w_orV, w_notV, w_call, w_chain, w_meth, w_meth0, w_sl, w_noPart, w_part, w_nil, w_cons, w_bl, w_tru, w_and, w_or, w_not, w_lcV, w_lcR, w_lc, w_seq, w_rng1, w_rng2, w_var0, w_var1, w_var2, w_var3, w_var4, w_var5, w_var6, w_var7, w_var8, w_var9, w_var10, w_var11, w_var12, w_var13, w_var14, w_var15, w_var16, w_var17, w_var18, w_var19, w_var20, w_dictT, w_dictK, w_callK, wpR_ok, wpR_sized, v_nm, v_addI, v_addS, v_addT, v_addL, v_sub, v_neg, w_mul, w_div, w_mod, w_pow, v_ordI, v_eqI, v_neI, v_eqS, v_neS, v_lenS, v_lenL, v_lenF, v_lenT, v_truB, v_seqS, v_seqT, v_seqL, v_seqF, v_listT, v_listL, v_tupleL, v_tupleT, v_tupD, v_lstD, v_lstR, v_slT, v_slL, v_slF, w_slS, defD_rt, defD_nx, defD_ex, defD_bk, defD_ct, AV.bl.injEq, AV.int.injEq, Option.some.injEq, exists_eq_left', tyS, if_true, if_false, Bool.false_eq_true, true_and, and_true]
  have es : lcl ⟨floor.map nameA, none⟩ (gNm 9) (fun _ M => .ok true M) (mBin gIx (mBin gIx (mBin gIx (mBin gIx (mVar 1) (mC (.str "changes"))) (mVar 9)) (mC (.int 3))) (mC (.int 0))) [some (.ref 0), some (.ref 5), some (.tup (base.map nameA)), some (.lst (floor.map nameA)), some (.str abc), some (.str x), some (.int way), none, none, none, none] (floor.map nameA) [] M4 = .ok ((floor.map (sortOf w)).map .str) M4 := by
    have := lcl_map (l0 := floor.map nameA) (t := gNm 9) (c := fun _ M => .ok true M) (el := mBin gIx (mBin gIx (mBin gIx (mBin gIx (mVar 1) (mC (.str "changes"))) (mVar 9)) (mC (.int 3))) (mC (.int 0))) (G := [some (.ref 0), some (.ref 5), some (.tup (base.map nameA)), some (.lst (floor.map nameA)), some (.str abc), some (.str x), some (.int way), none, none, none, none]) (M := M4) nameA (fun _ => true) (fun n => .str (sortOf w n)) floor [] (by simp; omega) fun n hn => ⟨_, rfl, rfl, fun _ => wpR_eq (by
      obtain ⟨r, e1, hr, e2⟩ := find_in (f := Rc.nm) (hf n hn)
      obtain ⟨s, rr, hd⟩ := (hw r hr).hd
      have e3 : atI [nameA r.nm, AV.str r.hand, .tup (r.base.map nameA), .tup (.str s :: rr)] 3 = some (.tup (.str s :: rr)) := rfl
      have e4 : atI (AV.str s :: rr) 0 = some (.str s) := by
        have : atI (AV.str s :: rr) 0 = ((AV.str s :: rr)[0]?) := by
          unfold atI ixN
          simp
        rw [this]
        rfl
      try simp -implicitDefEqProofs only [List.map_cons, List.map_nil, List.cons_append, List.nil_append, List.replicate, List.set_cons_succ, List.set_cons_zero, wipeG, wpS_then, wpS_set, wpS_if, wpS_mret, wpS_retN, wpS_mnext, wpS_mbrk, wpS_mcnt, wpS_exp, wpS_asg, wpS_for, w_c, w_bin, w_un, w_ifE, w_andV, w_orV, w_notV, w_call, w_chain, w_meth, w_meth0, w_sl, w_noPart, w_part, w_nil, w_cons, w_bl, w_tru, w_and, w_or, w_not, w_lcV, w_lcR, w_lc, w_seq, w_rng1, w_rng2, w_var0, w_var1, w_var2, w_var3, w_var4, w_var5, w_var6, w_var7, w_var8, w_var9, w_var10, w_var11, w_var12, w_var13, w_var14, w_var15, w_var16, w_var17, w_var18, w_var19, w_var20, w_dictT, w_dictK, w_callK, wpR_ok, wpR_sized, v_nm, v_addI, v_addS, v_addT, v_addL, v_sub, v_neg, w_mul, w_div, w_mod, w_pow, v_ordI, v_eqI, v_neI, v_eqS, v_neS, v_lenS, v_lenL, v_lenF, v_lenT, v_truB, v_seqS, v_seqT, v_seqL, v_seqF, v_listT, v_listL, v_tupleL, v_tupleT, v_tupD, v_lstD, v_lstR, v_slT, v_slL, v_slF, w_slS, defD_rt, defD_nx, defD_ex, defD_bk, defD_ct, AV.bl.injEq, AV.int.injEq, Option.some.injEq, exists_eq_left', tyS, if_true, if_false, Bool.false_eq_true, true_and, and_true, w_ch h4, w_chAt h4 e1, recA, w_ixT, e3, hd, e4]
      simp [sortOf, e1, hd, w_ixT, e4])⟩
    rw [List.nil_append, List.filter_eq_self.mpr fun _ _ => rfl] at this
    rw [List.map_map]
    exact this
  rw [es]
  try simp -implicitDefEqProofs only [List.map_cons, List.map_nil, List.cons_append, List.nil_append, List.replicate, List.set_cons_succ, List.set_cons_zero, wipeG, wpS_then, wpS_set, wpS_if, wpS_mret, wpS_retN, wpS_mnext, wpS_mbrk, wpS_mcnt, wpS_exp, wpS_asg, wpS_for, w_c, w_bin, w_un, w_ifE, w_andV, w_orV, w_notV, w_call, w_chain, w_meth, w_meth0, w_sl, w_noPart, w_part, w_nil, w_cons, w_bl, w_tru, w_and, w_or, w_not, w_lcV, w_lcR, w_lc, w_seq, w_rng1, w_rng2, w_var0, w_var1, w_var2, w_var3, w_var4, w_var5, w_var6, w_var7, w_var8, w_var9, w_var10, w_var11, w_var12, w_var13, w_var14, w_var15, w_var16, w_var17, w_var18, w_var19, w_var20, w_dictT, w_dictK, w_callK, wpR_ok, wpR_sized, v_nm, v_addI, v_addS, v_addT, v_addL, v_sub, v_neg, w_mul, w_div, w_mod, w_pow, v_ordI, v_eqI, v_neI, v_eqS, v_neS, v_lenS, v_lenL, v_lenF, v_lenT, v_truB, v_seqS, v_seqT, v_seqL, v_seqF, v_listT, v_listL, v_tupleL, v_tupleT, v_tupD, v_lstD, v_lstR, v_slT, v_slL, v_slF, w_slS, defD_rt, defD_nx, defD_ex, defD_bk, defD_ct, AV.bl.injEq, AV.int.injEq, Option.some.injEq, exists_eq_left', tyS, if_true, if_false, Bool.false_eq_true, true_and, and_true]
  rw [w_gRng1 (by unfold rngOk; simp; omega)]
  have hn' : ((floor.map nameA).length : Int).toNat = floor.length := by simp
  rw [hn']
  have eh : lcl ⟨rngItems 0 floor.length, none⟩ (gNm 10) (mBl (mBin gEq (mBin gIx (mVar 7) (mVar 10)) (mC (.str "hang")))) (mBin gIx (mVar 3) (mVar 10)) [some (.ref 0), some (.ref 5), some (.tup (base.map nameA)), some (.lst (floor.map nameA)), some (.str abc), some (.str x), some (.int way), some (.lst ((floor.map (sortOf w)).map .str)), none, none, none] (rngItems 0 floor.length) [] M4 =
      .ok ((((List.range floor.length).filter fun k => decide (sortOf w (floor.getD k (0, "")) = "hang")).map fun k => floor.getD k (0, "")).map nameA) M4 := by
    have := lcl_map (l0 := rngItems 0 floor.length) (t := gNm 10) (c := mBl (mBin gEq (mBin gIx (mVar 7) (mVar 10)) (mC (.str "hang")))) (el := mBin gIx (mVar 3) (mVar 10)) (G := [some (.ref 0), some (.ref 5), some (.tup (base.map nameA)), some (.lst (floor.map nameA)), some (.str abc), some (.str x), some (.int way), some (.lst ((floor.map (sortOf w)).map .str)), none, none, none]) (M := M4) (fun k : Nat => AV.int (0 + (k : Int))) (fun k => decide (sortOf w (floor.getD k (0, "")) = "hang")) (fun k => nameA (floor.getD k (0, ""))) (List.range floor.length) [] (by simp; omega) fun k hk => by
      have hk := List.mem_range.mp hk
      have e1 : atI ((floor.map (sortOf w)).map AV.str) (0 + (k : Int)) = some (.str (sortOf w (floor.getD k (0, "")))) := by
        rw [at_nn (by omega) (by simp; omega)]
        simp [hk]
      have e2 : atI (floor.map nameA) (0 + (k : Int)) = some (nameA (floor.getD k (0, ""))) := by
        rw [at_nn (by omega) (by simp; omega)]
        simp [hk]
      refine ⟨_, rfl, wpR_eq ?_, fun _ => wpR_eq ?_⟩
      · try simp -implicitDefEqProofs only [List.map_cons, List.map_nil, List.cons_append, List.nil_append, List.replicate, List.set_cons_succ, List.set_cons_zero, wipeG, wpS_then, wpS_set, wpS_if, wpS_mret, wpS_retN, wpS_mnext, wpS_mbrk, wpS_mcnt, wpS_exp, wpS_asg, wpS_for, w_c, w_bin, w_un, w_ifE, w_andV, w_orV, w_notV, w_call, w_chain, w_meth, w_meth0, w_sl, w_noPart, w_part, w_nil, w_cons, w_bl, w_tru, w_and, w_or, w_not, w_lcV, w_lcR, w_lc, w_seq, w_rng1, w_rng2, w_var0, w_var1, w_var2, w_var3, w_var4, w_var5, w_var6, w_var7, w_var8, w_var9, w_var10, w_var11, w_var12, w_var13, w_var14, w_var15, w_var16, w_var17, w_var18, w_var19, w_var20, w_dictT, w_dictK, w_callK, wpR_ok, wpR_sized, v_nm, v_addI, v_addS, v_addT, v_addL, v_sub, v_neg, w_mul, w_div, w_mod, w_pow, v_ordI, v_eqI, v_neI, v_eqS, v_neS, v_lenS, v_lenL, v_lenF, v_lenT, v_truB, v_seqS, v_seqT, v_seqL, v_seqF, v_listT, v_listL, v_tupleL, v_tupleT, v_tupD, v_lstD, v_lstR, v_slT, v_slL, v_slF, w_slS, defD_rt, defD_nx, defD_ex, defD_bk, defD_ct, AV.bl.injEq, AV.int.injEq, Option.some.injEq, exists_eq_left', tyS, if_true, if_false, Bool.false_eq_true, true_and, and_true, w_ixL, e1]
        try simp
      · try simp -implicitDefEqProofs only [List.map_cons, List.map_nil, List.cons_append, List.nil_append, List.replicate, List.set_cons_succ, List.set_cons_zero, wipeG, wpS_then, wpS_set, wpS_if, wpS_mret, wpS_retN, wpS_mnext, wpS_mbrk, wpS_mcnt, wpS_exp, wpS_asg, wpS_for, w_c, w_bin, w_un, w_ifE, w_andV, w_orV, w_notV, w_call, w_chain, w_meth, w_meth0, w_sl, w_noPart, w_part, w_nil, w_cons, w_bl, w_tru, w_and, w_or, w_not, w_lcV, w_lcR, w_lc, w_seq, w_rng1, w_rng2, w_var0, w_var1, w_var2, w_var3, w_var4, w_var5, w_var6, w_var7, w_var8, w_var9, w_var10, w_var11, w_var12, w_var13, w_var14, w_var15, w_var16, w_var17, w_var18, w_var19, w_var20, w_dictT, w_dictK, w_callK, wpR_ok, wpR_sized, v_nm, v_addI, v_addS, v_addT, v_addL, v_sub, v_neg, w_mul, w_div, w_mod, w_pow, v_ordI, v_eqI, v_neI, v_eqS, v_neS, v_lenS, v_lenL, v_lenF, v_lenT, v_truB, v_seqS, v_seqT, v_seqL, v_seqF, v_listT, v_listL, v_tupleL, v_tupleT, v_tupD, v_lstD, v_lstR, v_slT, v_slL, v_slF, w_slS, defD_rt, defD_nx, defD_ex, defD_bk, defD_ct, AV.bl.injEq, AV.int.injEq, Option.some.injEq, exists_eq_left', tyS, if_true, if_false, Bool.false_eq_true, true_and, and_true, w_ixL, e2]
        try simp
    rw [List.nil_append, show (fun k => nameA (floor.getD k (0, ""))) = nameA ∘ fun k => floor.getD k (0, "") from rfl, ← List.map_map] at this
    exact this
  rw [eh]
  have hh : ∀ y ∈ (((List.range floor.length).filter fun k => decide (sortOf w (floor.getD k (0, "")) = "hang")).map fun k => floor.getD k (0, "")), y ∈ floor := fun y hy => by
    obtain ⟨k, hk, rfl⟩ := List.mem_map.mp hy
    have hk := List.mem_range.mp (List.mem_filter.mp hk).1
    simp [hk]
  have hhl : (((List.range floor.length).filter fun k => decide (sortOf w (floor.getD k (0, "")) = "hang")).map fun k => floor.getD k (0, "")).length ≤ 100 := by
    have := List.length_filter_le (fun k => decide (sortOf w (floor.getD k (0, "")) = "hang")) (List.range floor.length)
    simp only [List.length_map, List.length_range] at this ⊢
    omega
  generalize (((List.range floor.length).filter fun k => decide (sortOf w (floor.getD k (0, "")) = "hang")).map fun k => floor.getD k (0, "")) = hangs at hh hhl ⊢
  have hput : ∀ (neg : Bool), gIn neg (.str "put") (.lst ((floor.map (sortOf w)).map .str)) M4 = .ok (.bl (if neg then !decide (("put" : Str) ∈ floor.map (sortOf w)) else decide (("put" : Str) ∈ floor.map (sortOf w)))) M4 := fun neg => v_inStr neg _ _
  have hlen : gLen [.ref 4] M4 = .ok (.int (h.map nameA).length) M4 := f_len (i := 3) h4 rfl
  generalize (floor.map (sortOf w)).map AV.str = sorts at hput ⊢
  have last : ∀ M', Fs (wrest w l h ++ tmp) [] M' → DeedOk (.tup [.str "put", .int 0, .str x]) := fun M' _ => deed_ok ⟨by decide +kernel, by decide +kernel⟩ (by
    intro a ha
    simp only [List.mem_cons, List.not_mem_nil, or_false] at ha
    rcases ha with rfl | rfl
    · exact (sh_int 1 (by decide) (by decide) (by decide)).mono (by decide) (by decide)
    · exact hx5) (by simp)
  try simp -implicitDefEqProofs only [List.map_cons, List.map_nil, List.cons_append, List.nil_append, List.replicate, List.set_cons_succ, List.set_cons_zero, wipeG, wpS_then, wpS_set, wpS_if, wpS_mret, wpS_retN, wpS_mnext, wpS_mbrk, wpS_mcnt, wpS_exp, wpS_asg, wpS_for, w_c, w_bin, w_un, w_ifE, w_andV, w_orV, w_notV, w_call, w_chain, w_meth, w_meth0, w_sl, w_noPart, w_part, w_nil, w_cons, w_bl, w_tru, w_and, w_or, w_not, w_lcV, w_lcR, w_lc, w_seq, w_rng1, w_rng2, w_var0, w_var1, w_var2, w_var3, w_var4, w_var5, w_var6, w_var7, w_var8, w_var9, w_var10, w_var11, w_var12, w_var13, w_var14, w_var15, w_var16, w_var17, w_var18, w_var19, w_var20, w_dictT, w_dictK, w_callK, wpR_ok, wpR_sized, v_nm, v_addI, v_addS, v_addT, v_addL, v_sub, v_neg, w_mul, w_div, w_mod, w_pow, v_ordI, v_eqI, v_neI, v_eqS, v_neS, v_lenS, v_lenL, v_lenF, v_lenT, v_truB, v_seqS, v_seqT, v_seqL, v_seqF, v_listT, v_listL, v_tupleL, v_tupleT, v_tupD, v_lstD, v_lstR, v_slT, v_slL, v_slF, w_slS, defD_rt, defD_nx, defD_ex, defD_bk, defD_ct, AV.bl.injEq, AV.int.injEq, Option.some.injEq, exists_eq_left', tyS, if_true, if_false, Bool.false_eq_true, true_and, and_true, v_neL0 (plain_namesL hangs), hput, w_ha h4, hlen]
  have i01 : ∀ i : Int, i.natAbs < 10 ^ 1 → Sh 1 411 (.int i) := fun i hi => (sh_int 1 hi (by decide) (by decide)).mono (by decide) (by decide)
  have putP : [AV.str "put", AV.int 0, AV.str x].length ≤ 16777216 ∧ plain 60 (AV.tup [AV.str "put", AV.int 0, AV.str x]) = true ∧ (∃ t, Fs (wrest w l h ++ tmp ++ t) [] M4) ∧ ∀ M'', Fs (wrest w l h ++ tmp) [] M'' → P (AV.tup [AV.str "put", AV.int 0, AV.str x]) M'' := ⟨by simp, fin _ _ (last _ h4) h4⟩
  have joinP := fin (.tup [.str "join"]) M4 (deed_ok ⟨by decide +kernel, by decide +kernel⟩ (by simp) (by decide)) h4
  have ansP : ([] : List AV).length ≤ 16777216 ∧ if (!(List.map nameA hangs).isEmpty) = true then wpR (m_draw [AV.ref 0, AV.int (List.map nameA hangs).length] M4) (fun b M2 => wpR (gIx (AV.lst (List.map nameA hangs)) b M2) (fun a M1 => [AV.str "answer", a, AV.str x].length ≤ 16777216 ∧ plain 60 (AV.tup [AV.str "answer", a, AV.str x]) = true ∧ (∃ t, Fs (wrest w l h ++ tmp ++ t) [] M1) ∧ ∀ M'', Fs (wrest w l h ++ tmp) [] M'' → P (AV.tup [AV.str "answer", a, AV.str x]) M'') fun _ _ _ => False) (fun _ _ _ => False)
      else [AV.str "put", AV.int 0, AV.str x].length ≤ 16777216 ∧ plain 60 (AV.tup [AV.str "put", AV.int 0, AV.str x]) = true ∧ (∃ t, Fs (wrest w l h ++ tmp ++ t) [] M4) ∧ ∀ M'', Fs (wrest w l h ++ tmp) [] M'' → P (AV.tup [AV.str "put", AV.int 0, AV.str x]) M'' := by
    refine ⟨by simp, ?_⟩
    split
    · rename_i hne
      have hpos : 0 < hangs.length := by
        cases hangs with
        | nil => simp at hne
        | cons a r => simp
      refine d_draw h0 h4 (by simp; omega) (by simp; omega) fun n M5 n0 n1 h5 => ?_
      refine w_one n0 (by simpa using n1) fun a ha => ?_
      obtain ⟨y, hy, rfl⟩ := List.mem_map.mp ha
      refine ⟨by simp, fin _ _ (deed_ok ⟨by decide +kernel, by decide +kernel⟩ (by
        intro a ha
        simp only [List.mem_cons, List.not_mem_nil, or_false] at ha
        rcases ha with rfl | rfl
        · exact (hn y (hh y hy)).sh
        · exact hx5) (by simp)) h5⟩
    · exact putP
  have hangP : [AV.str "shut", AV.str "wide"].length ≤ 16777216 ∧ wpR (m_draw [AV.ref 0, AV.int 2] M4) (fun b M2 => wpR (gIx (AV.lst [AV.str "shut", AV.str "wide"]) b M2) (fun a M1 => [AV.str "hang", AV.int 0, AV.int 1, a, AV.str x].length ≤ 16777216 ∧ plain 60 (AV.tup [AV.str "hang", AV.int 0, AV.int 1, a, AV.str x]) = true ∧ (∃ t, Fs (wrest w l h ++ tmp ++ t) [] M1) ∧ ∀ M'', Fs (wrest w l h ++ tmp) [] M'' → P (AV.tup [AV.str "hang", AV.int 0, AV.int 1, a, AV.str x]) M'') fun _ _ _ => False) (fun _ _ _ => False) := by
    refine ⟨by simp, ?_⟩
    refine d_draw h0 h4 (by decide) (by decide) fun n M5 n0 n1 h5 => ?_
    refine w_one n0 (by simpa using n1) fun a ha => ?_
    have ha : Sh 1 411 a := by
      simp only [List.mem_cons, List.not_mem_nil, or_false] at ha
      rcases ha with rfl | rfl
      · exact (Tx.sh (n := 4) ⟨by decide +kernel, by decide +kernel⟩).mono (by decide) (by decide)
      · exact (Tx.sh (n := 4) ⟨by decide +kernel, by decide +kernel⟩).mono (by decide) (by decide)
    refine ⟨by simp, fin _ _ (deed_ok ⟨by decide +kernel, by decide +kernel⟩ (by
      intro b hb
      simp only [List.mem_cons, List.not_mem_nil, or_false] at hb
      rcases hb with rfl | rfl | rfl | rfl
      · exact i01 0 (by decide)
      · exact i01 1 (by decide)
      · exact ha
      · exact hx5) (by simp)) h5⟩
  by_cases c0 : decide (way = 0) = true <;> by_cases c1 : decide (1 < ((List.map nameA base).length : Int)) = true <;> by_cases c2 : decide (way = 1) = true <;> by_cases c3 : decide (("put" : Str) ∈ List.map (sortOf w) floor) = true <;>
    by_cases c4 : decide (((List.map nameA h).length : Int) < 6) = true <;> by_cases c5 : decide (way = 2) = true <;> simp only [c0, c1, c2, c3, c4, c5, if_true, if_false, Bool.false_eq_true] <;>
    first | exact putP | exact ⟨by simp, joinP⟩ | exact ansP | exact hangP
end
end Px

/-! Px11: a step of the world. -/
namespace Px
open PySem hiding Env plain
open L2 Mx StrLaws PySem.W
theorem wp_seq {m n : SM} {G : Env} {M : AH} {D : SD} (I : Env → AH → Prop) (h1 : wpS (m G M) ⟨I, D.rt, D.ex, D.bk, D.ct⟩) (h2 : ∀ G M, I G M → wpS (n G M) D) : wpS (mThen m n G M) D := by
  rw [wpS_then]
  exact h1.imp (fun G M h => h2 G M h) (fun _ _ h => h) (fun _ _ _ h => h) (fun _ _ h => h) fun _ _ h => h
def knowsW (w : List Rc) (n : Nm) : List Nm := match w.find? (fun r => decide (r.nm = n)) with
  | some r => r.floor
  | none => []
theorem knows_in {w : List Rc} {n : Nm} (h : n ∈ namesW w) : ∃ r, (w.find? fun r => decide (r.nm = n)) = some r ∧ r ∈ w ∧ r.nm = n ∧ knowsW w n = r.floor := by
  obtain ⟨r, e1, hr, e2⟩ := find_in (f := Rc.nm) h
  exact ⟨r, e1, hr, e2, by simp [knowsW, e1]⟩
def lookL (l : List (Str × Nm)) (b : Str) : Option Nm := (l.find? fun p => decide (p.1 = b)).map (·.2)
theorem getK_la (l : List (Str × Nm)) (b : Str) : getK (laK l) (.inr b) = (lookL l b).map nameA := by
  unfold getK laK lookL
  rw [List.find?_map]
  have e : ((fun kv : Key × AV => decide (kv.1 = Sum.inr b)) ∘ fun p : Str × Nm => ((Sum.inr p.1 : Key), nameA p.2)) = fun p => decide (p.1 = b) := by
    funext p
    apply decide_eq_decide.mpr
    exact ⟨fun h => Sum.inr.inj h, fun h => by show (Sum.inr p.1 : Key) = _; rw [h]⟩
  rw [e]
  cases l.find? fun p => decide (p.1 = b) <;> rfl
def setL' (l : List (Str × Nm)) (b : Str) (n : Nm) : List (Str × Nm) := if (l.any fun p => decide (p.1 = b)) = true then l.map (fun p => if p.1 = b then (p.1, n) else p) else l ++ [(b, n)]
theorem setK_la (l : List (Str × Nm)) (b : Str) (n : Nm) : setK (laK l) (.inr b) (nameA n) = laK (setL' l b n) := by
  have e : ((laK l).any fun kv => decide (kv.1 = Sum.inr b)) = l.any fun p => decide (p.1 = b) := by
    unfold laK
    rw [List.any_map]
    congr 1
    funext p
    apply decide_eq_decide.mpr
    exact ⟨fun h => Sum.inr.inj h, fun h => by show (Sum.inr p.1 : Key) = _; rw [h]⟩
  unfold setK setL'
  rw [e]
  split
  · unfold laK
    rw [List.map_map, List.map_map]
    refine List.map_congr_left fun p _ => ?_
    show (if (Sum.inr p.1 : Key) = Sum.inr b then ((Sum.inr p.1 : Key), nameA n) else (Sum.inr p.1, nameA p.2)) = (Sum.inr (if p.1 = b then (p.1, n) else p).1, nameA (if p.1 = b then (p.1, n) else p).2)
    by_cases q : p.1 = b
    · simp [q]
    · have q2 : ¬ (Sum.inr p.1 : Key) = Sum.inr b := fun z => q (Sum.inr.inj z)
      simp [q, q2]
  · simp [laK]
theorem lookL_set (l : List (Str × Nm)) (b c : Str) (n : Nm) : lookL (setL' l b n) c = if c = b then some n else lookL l c := by
  unfold setL'
  split
  · rename_i ha
    unfold lookL
    rw [List.find?_map]
    have e : ((fun p : Str × Nm => decide (p.1 = c)) ∘ fun p : Str × Nm => if p.1 = b then (p.1, n) else p) = fun p => decide (p.1 = c) := by
      funext p
      simp only [Function.comp]
      by_cases q : p.1 = b <;> simp [q]
    rw [e]
    by_cases hc : c = b
    · subst hc
      rw [if_pos rfl]
      obtain ⟨p, hp, q⟩ := List.any_eq_true.mp ha
      cases f : l.find? fun p => decide (p.1 = c) with
      | none =>
        have := List.find?_eq_none.mp f p hp
        exact absurd q this
      | some p' =>
        have : p'.1 = c := by simpa using List.find?_some f
        simp [this]
    · rw [if_neg hc]
      cases f : l.find? fun p => decide (p.1 = c) with
      | none => rfl
      | some p' =>
        have h1 : p'.1 = c := by simpa using List.find?_some f
        have h2 : ¬ p'.1 = b := fun z => hc (h1 ▸ z)
        simp [h2]
  · rename_i ha
    unfold lookL
    rw [List.find?_append]
    by_cases hc : c = b
    · subst hc
      rw [if_pos rfl]
      have f : l.find? (fun p => decide (p.1 = c)) = none := List.find?_eq_none.mpr fun p hp q => ha (List.any_eq_true.mpr ⟨p, hp, q⟩)
      simp [f]
    · rw [if_neg hc]
      have h2 : ¬ b = c := fun z => hc z.symm
      cases l.find? (fun p => decide (p.1 = c)) <;> simp [h2]
/-! ### what is known of the world -/
structure RecOk (w : List Rc) (r : Rc) : Prop where
  fl : ∀ x ∈ r.floor, x ∈ namesW w
  nd : r.floor.Nodup
  so : ∃ L, r.floor = sortN L
  clo : ∀ x ∈ r.floor, ∀ y ∈ knowsW w x, y ∈ r.floor
  ba : r.base = r.floor.filter fun x => decide (∀ y ∈ r.floor, x ∉ knowsW w y)
  cnt : r.nm.1 = 1 + maxD0 0 (r.floor.map (·.1))
  br : ∀ s ∈ w, s.nm.2 = r.nm.2 → s.nm ∈ r.floor
  ok : NmOk r.nm
  hand : Tx AnyC 20 r.hand
  deed : DeedOk r.deed
inductive WOk : List Rc → Prop
  | nil : WOk []
  | snoc {w : List Rc} {r : Rc} : WOk w → RecOk w r → WOk (w ++ [r])
theorem maxD0_ge : ∀ (L : List Int) (x : Int), x ∈ L → x ≤ maxD0 0 L
  | n :: r, x, h => by
    obtain ⟨h1, h2, _⟩ := foldmax_ge r n
    rcases List.mem_cons.mp h with rfl | h
    · exact h1
    · exact h2 x h
theorem maxD0_in : ∀ L : List Int, maxD0 0 L = 0 ∨ maxD0 0 L ∈ L
  | [] => .inl rfl
  | n :: r => by
    obtain ⟨_, _, h3⟩ := foldmax_ge r n
    right
    rcases h3 with h3 | h3
    · show r.foldl max n ∈ _
      rw [h3]
      simp
    · exact List.mem_cons_of_mem _ h3
theorem RecOk.lt {w : List Rc} {r : Rc} (h : RecOk w r) {x : Nm} (hx : x ∈ r.floor) : x.1 < r.nm.1 := by
  have := maxD0_ge (r.floor.map (·.1)) x.1 (List.mem_map.mpr ⟨x, hx, rfl⟩)
  rw [h.cnt]
  omega
theorem RecOk.new {w : List Rc} {r : Rc} (h : RecOk w r) : r.nm ∉ namesW w := fun z => by
  obtain ⟨s, hs, e⟩ := List.mem_map.mp z
  have := h.lt (h.br s hs (by rw [e]))
  rw [e] at this
  omega
theorem WOk.nd {w : List Rc} (h : WOk w) : (namesW w).Nodup := by
  induction h with
  | nil => simp [namesW]
  | @snoc w r _ hr ih =>
    show ((w ++ [r]).map (·.nm)).Nodup
    rw [List.map_append, List.nodup_append]
    refine ⟨ih, by simp, fun a ha b hb e => ?_⟩
    simp only [List.map_cons, List.map_nil, List.mem_singleton] at hb
    exact hr.new (by rw [← hb, ← e]; exact ha)
theorem WOk.deeds {w : List Rc} (h : WOk w) : ∀ r ∈ w, DeedOk r.deed ∧ NmOk r.nm ∧ Tx AnyC 20 r.hand := by
  induction h with
  | nil => simp
  | @snoc w r _ hr ih =>
    intro s hs
    rcases List.mem_append.mp hs with z | z
    · exact ih s z
    · rw [List.mem_singleton.mp z]
      exact ⟨hr.deed, hr.ok, hr.hand⟩
theorem WOk.names {w : List Rc} (h : WOk w) : ∀ n ∈ namesW w, NmOk n := fun n hn => by
  obtain ⟨r, hr, rfl⟩ := List.mem_map.mp hn
  exact (h.deeds r hr).2.1
/-- the last one of each branch -/
def LaOk (w : List Rc) (l : List (Str × Nm)) : Prop := ∀ b, match lookL l b with
  | none => ∀ s ∈ w, s.nm.2 ≠ b
  | some n => n ∈ namesW w ∧ ∀ s ∈ w, s.nm.2 = b → s.nm = n ∨ s.nm ∈ knowsW w n
theorem knows_app {w : List Rc} {r : Rc} {n : Nm} (h : n ∈ namesW w) : knowsW (w ++ [r]) n = knowsW w n := by
  obtain ⟨s, e, _, _, _⟩ := knows_in h
  unfold knowsW
  rw [List.find?_append, e]
  rfl
theorem knows_new {w : List Rc} {r : Rc} (h : r.nm ∉ namesW w) : knowsW (w ++ [r]) r.nm = r.floor := by
  unfold knowsW
  rw [List.find?_append, find_no (f := Rc.nm) h]
  simp
theorem LaOk.snoc {w : List Rc} {l : List (Str × Nm)} {r : Rc} (h : LaOk w l) (hr : RecOk w r) : LaOk (w ++ [r]) (setL' l r.nm.2 r.nm) := fun b => by
  rw [lookL_set]
  by_cases hb : b = r.nm.2
  · rw [if_pos hb]
    refine ⟨by simp [namesW], fun s hs e => ?_⟩
    rcases List.mem_append.mp hs with z | z
    · right
      rw [knows_new hr.new]
      exact hr.br s z (by rw [e, hb])
    · left
      rw [List.mem_singleton.mp z]
  · rw [if_neg hb]
    have := h b
    cases e : lookL l b with
    | none =>
      rw [e] at this
      intro s hs
      rcases List.mem_append.mp hs with z | z
      · exact this s z
      · rw [List.mem_singleton.mp z]
        exact fun q => hb q.symm
    | some n =>
      rw [e] at this
      obtain ⟨h1, h2⟩ := this
      refine ⟨by simp only [namesW, List.map_append, List.mem_append]; exact .inl h1, fun s hs q => ?_⟩
      rcases List.mem_append.mp hs with z | z
      · rw [knows_app h1]
        exact h2 s z q
      · rw [List.mem_singleton.mp z] at q
        exact absurd q.symm hb
/-- what is known is known by what knows it -/
theorem WOk.trans {w : List Rc} (h : WOk w) : ∀ n ∈ namesW w, (∀ x ∈ knowsW w n, x ∈ namesW w ∧ x.1 < n.1 ∧ ∀ y ∈ knowsW w x, y ∈ knowsW w n) ∧ (knowsW w n).Nodup := by
  induction h with
  | nil => simp [namesW]
  | @snoc w r hw hr ih =>
    intro n hn
    simp only [namesW, List.map_append, List.map_cons, List.map_nil, List.mem_append, List.mem_singleton] at hn
    rcases hn with hn | rfl
    · rw [knows_app hn]
      obtain ⟨i1, i2⟩ := ih n hn
      refine ⟨fun x hx => ?_, i2⟩
      obtain ⟨a, b, c⟩ := i1 x hx
      rw [knows_app a]
      exact ⟨by simp only [namesW, List.map_append, List.mem_append]; exact .inl a, b, c⟩
    · rw [knows_new hr.new]
      refine ⟨fun x hx => ?_, hr.nd⟩
      have hxn := hr.fl x hx
      rw [knows_app hxn]
      exact ⟨by simp only [namesW, List.map_append, List.mem_append]; exact .inl hxn, hr.lt hx, hr.clo x hx⟩
end Px

/-! Px12: a step of the world, gone through. -/
namespace Px
open PySem hiding Env plain
open L2 Mx StrLaws PySem.W
abbrev insAll (L xs : List Nm) : List Nm := xs.foldl insN L
theorem mem_insAll {x : Nm} : ∀ {xs L : List Nm}, x ∈ insAll L xs ↔ x ∈ L ∨ x ∈ xs
  | [], L => by simp
  | a :: r, L => by
    show x ∈ insAll (insN L a) r ↔ _
    rw [mem_insAll, mem_insN]
    simp only [List.mem_cons]
    constructor
    · rintro ((h | h) | h)
      · exact .inl h
      · exact .inr (.inl h)
      · exact .inr (.inr h)
    · rintro (h | h | h)
      · exact .inl (.inl h)
      · exact .inl (.inr h)
      · exact .inr h
theorem nd_insAll : ∀ {xs L : List Nm}, L.Nodup → (insAll L xs).Nodup
  | [], L, h => h
  | a :: r, L, h => nd_insAll (xs := r) (L := insN L a) (nd_insN h)
abbrev addAll (f : Nm → List Nm) (L g : List Nm) : List Nm := g.foldl (fun acc n => insAll acc (f n)) L
theorem mem_addAll {f : Nm → List Nm} {x : Nm} : ∀ {g L : List Nm}, x ∈ addAll f L g ↔ x ∈ L ∨ ∃ n ∈ g, x ∈ f n
  | [], L => by simp
  | a :: r, L => by
    show x ∈ addAll f (insAll L (f a)) r ↔ _
    rw [mem_addAll, mem_insAll]
    simp only [List.mem_cons, exists_eq_or_imp]
    constructor
    · rintro ((h | h) | h)
      · exact .inl h
      · exact .inr (.inl h)
      · exact .inr (.inr h)
    · rintro (h | h | h)
      · exact .inl (.inl h)
      · exact .inl (.inr h)
      · exact .inr h
theorem nd_addAll {f : Nm → List Nm} : ∀ {g L : List Nm}, L.Nodup → (addAll f L g).Nodup
  | [], L, h => h
  | a :: r, L, h => nd_addAll (g := r) (L := insAll L (f a)) (nd_insAll h)
theorem clt_of {n : Nat} : ∀ {kvs : List (List Key × AV)}, (∀ p ∈ kvs, cl n p.2 = true) → clt n kvs = true
  | [], _ => rfl
  | (k, x) :: r, h => by
    simp only [clt, Bool.and_eq_true]
    exact ⟨h (k, x) (by simp), clt_of fun p hp => h p (by simp [hp])⟩
theorem clk_of {n : Nat} : ∀ {kvs : List (Key × AV)}, (∀ p ∈ kvs, cl n p.2 = true) → clk n kvs = true
  | [], _ => rfl
  | (k, x) :: r, h => by
    simp only [clk, Bool.and_eq_true]
    exact ⟨h (k, x) (by simp), clk_of fun p hp => h p (by simp [hp])⟩
theorem plain_rec {r : Rc} (h : DeedOk r.deed) : plain 60 (recA r) = true := by
  have h1 : plain 59 r.deed = true := plain_mono 2 59 _ (by decide) h.sh.pl
  have h2 : (r.base.map nameA).all (plain 58) = true := by
    simp only [List.all_map, List.all_eq_true]
    exact fun n _ => rfl
  simp only [recA, plain, List.all_cons, List.all_nil, Bool.and_true, h1, Bool.and_eq_true]
  exact ⟨rfl, trivial, h2⟩
theorem cl_wrest {w : List Rc} {l : List (Str × Nm)} {h : List Nm} (hw : ∀ r ∈ w, DeedOk r.deed) : ∀ c ∈ wrest w l h, cl 6 c = true := by
  intro c hc
  simp only [wrest, List.mem_cons, List.not_mem_nil, or_false] at hc
  rcases hc with rfl | rfl | rfl | rfl | rfl
  · refine clt_of fun p hp => ?_
    obtain ⟨r, hr, rfl⟩ := List.mem_map.mp hp
    exact plain_cl 6 60 _ (plain_rec (hw r hr))
  · refine clt_of fun p hp => ?_
    obtain ⟨r, hr, rfl⟩ := List.mem_map.mp hp
    exact plain_cl 6 60 _ (plain_namesL r.floor)
  · refine clk_of fun p hp => ?_
    obtain ⟨r, hr, rfl⟩ := List.mem_map.mp hp
    exact plain_cl 6 60 _ (plain_name r.2)
  · exact plain_cl 6 60 _ (plain_namesL h)
  · rfl
theorem cnt_le {w : List Rc} (h : WOk w) : ∀ n ∈ namesW w, n.1 ≤ w.length := by
  induction h with
  | nil => simp [namesW]
  | @snoc w r _ hr ih =>
    intro n hn
    simp only [namesW, List.map_append, List.map_cons, List.map_nil, List.mem_append, List.mem_singleton] at hn
    simp only [List.length_append, List.length_cons, List.length_nil]
    rcases hn with hn | rfl
    · have := ih n hn
      omega
    · rw [hr.cnt]
      rcases maxD0_in (r.floor.map (·.1)) with h | h
      · omega
      · obtain ⟨x, hx, e⟩ := List.mem_map.mp h
        have := ih x (hr.fl x hx)
        omega
def stE (ws : List Str) (b nms gr wa o7 o8 fl be ba ow de : Option AV) : Env := [some (.ref 0), some (.ref 5), some (.lst (ws.map .str)), b, nms, gr, wa, o7, o8, fl, be, ba, ow, de]
theorem len_setL (l : List (Str × Nm)) (b : Str) (n : Nm) : (setL' l b n).length ≤ l.length + 1 := by
  unfold setL'
  split
  · rw [List.length_map]
    omega
  · simp
theorem intsOf_map : ∀ L : List Int, intsOf (L.map .int) = some L
  | [] => rfl
  | a :: r => by simp [intsOf, intsOf_map r]
theorem v_maxDf (L : List Int) (d : Int) {M : AH} : gMaxDf [.lst (L.map .int)] [.int d] M = .ok (.int (maxD0 d L)) M := by
  simp only [gMaxDf, lstR, Option.bind_some, intsOf_map]
theorem nd_sortN {L : List Nm} (h : L.Nodup) : (sortN L).Nodup := (List.mergeSort_perm L _).nodup_iff.mpr h
section
variable {w : List Rc} {l : List (Str × Nm)} {h : List Nm} {M : AH} {P : AV → AH → Prop} {E : Str → List (Str × AV) → AH → Prop}
/-- what is known to each of a row of names, with it or not, put into a dict -/
theorem d_wanted {rest2 : List AV} {D : SD} {G : Env} {S : Src} {iv : Nat} {n : Nm} {s : List Nm} {xs : List Nm} {mo : EM} (hS : S.num = none) (hM : Fs rest2 [] M) (hx : rest2[iv]? = some (.dT (trueK s))) (hs : s.Nodup) (hsub : ∀ x ∈ s, x ∈ namesW w) (hxs : ∀ x ∈ xs, x ∈ namesW w) (hl : w.length ≤ 20) (k : Nat)
    (hk : k < G.length) (ho : ∀ v M, mo (G.set k v) M = .ok (.ref (iv + 1)) M) (q : ∀ M', Fs (rest2.set iv (.dT (trueK (insAll s xs)))) [] M' → ∀ v, D.nx (G.set k v) M') :
    wpS (loop S (gNm k) (mAsg (gPut mo (mVar k)) (mC (.bl true))) (xs.map nameA) G M) D := by
  obtain ⟨items, num⟩ := S
  cases hS
  refine wp_fold (S := ⟨items, none⟩) nameA insN (fun s' G' M' => Fs (rest2.set iv (.dT (trueK s'))) [] M' ∧ s'.Nodup ∧ (∀ x ∈ s', x ∈ namesW w) ∧ ∃ v, G' = G.set k v) (fun _ _ _ _ => trivial) xs s G M ⟨?_, hs, hsub, ?_⟩ ?_ ?_
  · have : rest2.set iv (.dT (trueK s)) = rest2 := by
      apply List.ext_getElem?
      intro j
      by_cases e : j = iv
      · subst e
        rw [hx, List.getElem?_set_self (List.getElem?_eq_some_iff.mp hx).1]
      · rw [List.getElem?_set_ne (Ne.symm e)]
    rwa [this]
  · exact ⟨G[k], by simp⟩
  · rintro s' x G' M' hxm ⟨hF, hnd, hsb, v, rfl⟩
    have hlen : iv < rest2.length := (List.getElem?_eq_some_iff.mp hx).1
    have eG : (G.set k v).set k (some (nameA x)) = G.set k (some (nameA x)) := by simp
    have ev : mVar k (G.set k (some (nameA x))) M' = .ok (nameA x) M' := by
      unfold mVar
      rw [List.getElem?_set_self hk]
    try simp -implicitDefEqProofs only [List.map_cons, List.map_nil, List.cons_append, List.nil_append, List.replicate, List.set_cons_succ, List.set_cons_zero, wipeG, wpS_then, wpS_set, wpS_if, wpS_mret, wpS_retN, wpS_mnext, wpS_mbrk, wpS_mcnt, wpS_exp, wpS_asg, wpS_for, w_c, w_bin, w_un, w_ifE, w_andV, w_orV, w_notV, w_call, w_chain, w_meth, w_meth0, w_sl, w_noPart, w_part, w_nil, w_cons, w_bl, w_tru, w_and, w_or, w_not, w_lcV, w_lcR, w_lc, w_seq, w_rng1, w_rng2, w_var0, w_var1, w_var2, w_var3, w_var4, w_var5, w_var6, w_var7, w_var8, w_var9, w_var10, w_var11, w_var12, w_var13, w_var14, w_var15, w_var16, w_var17, w_var18, w_var19, w_var20, w_dictT, w_dictK, w_callK, wpR_ok, wpR_sized, v_nm, v_addI, v_addS, v_addT, v_addL, v_sub, v_neg, w_mul, w_div, w_mod, w_pow, v_ordI, v_eqI, v_neI, v_eqS, v_neS, v_lenS, v_lenL, v_lenF, v_lenT, v_truB, v_seqS, v_seqT, v_seqL, v_seqF, v_listT, v_listL, v_tupleL, v_tupleT, v_tupD, v_lstD, v_lstR, v_slT, v_slL, v_slF, w_slS, defD_rt, defD_nx, defD_ex, defD_bk, defD_ct, AV.bl.injEq, AV.int.injEq, Option.some.injEq, exists_eq_left', tyS, if_true, if_false, Bool.false_eq_true, true_and, and_true]
    rw [eG]
    refine f_putT hF (by rw [List.getElem?_set_self hlen]) ?_ (ho _ _) ev (keyT_name x) fun M2 h2 => ?_
    · have := nd_len s' (namesW w) hnd hsb
      simp only [trueK, byN, List.length_map] at this ⊢
      omega
    · rw [setK_true, List.set_set] at h2
      refine ⟨h2, nd_insN hnd, fun y hy => ?_, _, rfl⟩
      rcases mem_insN.mp hy with z | z
      · exact hsb y z
      · exact z ▸ hxs x hxm
  · rintro G' M' ⟨hF, _, _, v, rfl⟩
    exact q M' hF v

theorem d_step {ws : List Str} (hM : Fs (wrest w l h) [] M) (hw : WOk w) (hla : LaOk w l) (hl : w.length ≤ 20) (hh : h.length ≤ 100) (hll : l.length ≤ 100) (w0 : 0 < ws.length) (w6 : ws.length ≤ 6) (hws : ∀ x ∈ ws, Tx AnyC 20 x)
    (q : ∀ r l' h' M', RecOk w r → r.nm.2 ∈ ws → LaOk (w ++ [r]) l' → h'.length ≤ h.length + 1 → l'.length ≤ l.length + 1 → Fs (wrest (w ++ [r]) l' h') [] M' → P .non M') : wpR (m_step [.ref 0, .ref 5, .lst (ws.map .str)] M) P E := by
  refine wp_gcW hM ?_
  have h0 : 0 ∉ ([] : List Nat) := by simp
  refine wp_def rfl ?_
  have hD : ∀ r l' h' M' tmp, RecOk w r → r.nm.2 ∈ ws → LaOk (w ++ [r]) l' → h'.length ≤ h.length + 1 → l'.length ≤ l.length + 1 → Fs (wrest (w ++ [r]) l' h' ++ tmp) [] M' →
      plain 60 AV.non = true ∧ ∃ rest' tmp, rest'.length = (wrest w l h).length ∧ Fs (rest' ++ tmp) [] M' ∧ (∀ c ∈ rest', cl ((wrest w l h).length + 1) c = true) ∧ ∀ M'', Fs rest' [] M'' → P .non M'' := fun r l' h' M' tmp hr hb hl' hh' hll' hF =>
    ⟨rfl, wrest (w ++ [r]) l' h', tmp, rfl, hF, cl_wrest fun s hs => ((WOk.snoc hw hr).deeds s hs).1, fun M'' h2 => q r l' h' M'' hr hb hl' hh' hll' h2⟩
  generalize hDD : defD (fun a M' => plain 60 a = true ∧ ∃ rest' tmp, rest'.length = (wrest w l h).length ∧ Fs (rest' ++ tmp) [] M' ∧ (∀ c ∈ rest', cl ((wrest w l h).length + 1) c = true) ∧ ∀ M'', Fs rest' [] M'' → P a M'') (fun _ _ _ => False) = D
  have hDn : ∀ G M', (plain 60 AV.non = true ∧ ∃ rest' tmp, rest'.length = (wrest w l h).length ∧ Fs (rest' ++ tmp) [] M' ∧ (∀ c ∈ rest', cl ((wrest w l h).length + 1) c = true) ∧ ∀ M'', Fs rest' [] M'' → P .non M'') → D.nx G M' := fun G M' z => by
    rw [← hDD]
    exact z
  clear hDD
  have hM : Fs (wrest w l h ++ []) [] M := by rwa [List.append_nil]
  unfold step_b
  -- the branch
  refine wp_seq (fun G M => ∃ b, b ∈ ws ∧ G = stE ws (some (.str b)) none none none none none none none none none none ∧ Fs (wrest w l h ++ []) [] M) ?_ ?_
  · try simp -implicitDefEqProofs only [List.map_cons, List.map_nil, List.cons_append, List.nil_append, List.replicate, List.set_cons_succ, List.set_cons_zero, wipeG, wpS_then, wpS_set, wpS_if, wpS_mret, wpS_retN, wpS_mnext, wpS_mbrk, wpS_mcnt, wpS_exp, wpS_asg, wpS_for, w_c, w_bin, w_un, w_ifE, w_andV, w_orV, w_notV, w_call, w_chain, w_meth, w_meth0, w_sl, w_noPart, w_part, w_nil, w_cons, w_bl, w_tru, w_and, w_or, w_not, w_lcV, w_lcR, w_lc, w_seq, w_rng1, w_rng2, w_var0, w_var1, w_var2, w_var3, w_var4, w_var5, w_var6, w_var7, w_var8, w_var9, w_var10, w_var11, w_var12, w_var13, w_var14, w_var15, w_var16, w_var17, w_var18, w_var19, w_var20, w_dictT, w_dictK, w_callK, wpR_ok, wpR_sized, v_nm, v_addI, v_addS, v_addT, v_addL, v_sub, v_neg, w_mul, w_div, w_mod, w_pow, v_ordI, v_eqI, v_neI, v_eqS, v_neS, v_lenS, v_lenL, v_lenF, v_lenT, v_truB, v_seqS, v_seqT, v_seqL, v_seqF, v_listT, v_listL, v_tupleL, v_tupleT, v_tupD, v_lstD, v_lstR, v_slT, v_slL, v_slF, w_slS, defD_rt, defD_nx, defD_ex, defD_bk, defD_ct, AV.bl.injEq, AV.int.injEq, Option.some.injEq, exists_eq_left', tyS, if_true, if_false, Bool.false_eq_true, true_and, and_true]
    refine d_draw h0 hM (by simp; omega) (by simp; omega) fun n M1 n0 n1 h1 => ?_
    refine w_one n0 (by simpa using n1) fun a ha => ?_
    obtain ⟨b, hb, rfl⟩ := List.mem_map.mp ha
    exact ⟨b, hb, rfl, h1⟩
  rintro _ M ⟨b, hb, rfl, hM⟩
  -- the names
  refine wp_seq (fun G M => G = stE ws (some (.str b)) (some (.lst ((sortN (namesW w)).map nameA))) none none none none none none none none none ∧ Fs (wrest w l h ++ []) [] M) ?_ ?_
  · unfold stE
    try simp -implicitDefEqProofs only [List.map_cons, List.map_nil, List.cons_append, List.nil_append, List.replicate, List.set_cons_succ, List.set_cons_zero, wipeG, wpS_then, wpS_set, wpS_if, wpS_mret, wpS_retN, wpS_mnext, wpS_mbrk, wpS_mcnt, wpS_exp, wpS_asg, wpS_for, w_c, w_bin, w_un, w_ifE, w_andV, w_orV, w_notV, w_call, w_chain, w_meth, w_meth0, w_sl, w_noPart, w_part, w_nil, w_cons, w_bl, w_tru, w_and, w_or, w_not, w_lcV, w_lcR, w_lc, w_seq, w_rng1, w_rng2, w_var0, w_var1, w_var2, w_var3, w_var4, w_var5, w_var6, w_var7, w_var8, w_var9, w_var10, w_var11, w_var12, w_var13, w_var14, w_var15, w_var16, w_var17, w_var18, w_var19, w_var20, w_dictT, w_dictK, w_callK, wpR_ok, wpR_sized, v_nm, v_addI, v_addS, v_addT, v_addL, v_sub, v_neg, w_mul, w_div, w_mod, w_pow, v_ordI, v_eqI, v_neI, v_eqS, v_neS, v_lenS, v_lenL, v_lenF, v_lenT, v_truB, v_seqS, v_seqT, v_seqL, v_seqF, v_listT, v_listL, v_tupleL, v_tupleT, v_tupD, v_lstD, v_lstR, v_slT, v_slL, v_slF, w_slS, defD_rt, defD_nx, defD_ex, defD_bk, defD_ct, AV.bl.injEq, AV.int.injEq, Option.some.injEq, exists_eq_left', tyS, if_true, if_false, Bool.false_eq_true, true_and, and_true, w_ch hM, w_sortCh hM]
    exact hM
  rintro _ M ⟨rfl, hM⟩
  -- the grounds
  refine wp_seq (fun G M => ∃ g : List Nm, (∀ x ∈ g, x ∈ namesW w) ∧ g.length ≤ 1 ∧ (∀ n, lookL l b = some n → n ∈ g) ∧ G = stE ws (some (.str b)) (some (.lst ((sortN (namesW w)).map nameA))) (some (.ref 6)) none none none none none none none none ∧ Fs (wrest w l h ++ [.lst (g.map nameA)]) [] M) ?_ ?_
  · have hin : gIn false (.str b) (.ref 3) M = .ok (.bl (getK (laK l) (.inr b)).isSome) M := f_inK (i := 2) hM rfl rfl
    have hb5 : M.objs.length = 6 := hM.len
    unfold stE
    try simp -implicitDefEqProofs only [List.map_cons, List.map_nil, List.cons_append, List.nil_append, List.replicate, List.set_cons_succ, List.set_cons_zero, wipeG, wpS_then, wpS_set, wpS_if, wpS_mret, wpS_retN, wpS_mnext, wpS_mbrk, wpS_mcnt, wpS_exp, wpS_asg, wpS_for, w_c, w_bin, w_un, w_ifE, w_andV, w_orV, w_notV, w_call, w_chain, w_meth, w_meth0, w_sl, w_noPart, w_part, w_nil, w_cons, w_bl, w_tru, w_and, w_or, w_not, w_lcV, w_lcR, w_lc, w_seq, w_rng1, w_rng2, w_var0, w_var1, w_var2, w_var3, w_var4, w_var5, w_var6, w_var7, w_var8, w_var9, w_var10, w_var11, w_var12, w_var13, w_var14, w_var15, w_var16, w_var17, w_var18, w_var19, w_var20, w_dictT, w_dictK, w_callK, wpR_ok, wpR_sized, v_nm, v_addI, v_addS, v_addT, v_addL, v_sub, v_neg, w_mul, w_div, w_mod, w_pow, v_ordI, v_eqI, v_neI, v_eqS, v_neS, v_lenS, v_lenL, v_lenF, v_lenT, v_truB, v_seqS, v_seqT, v_seqL, v_seqF, v_listT, v_listL, v_tupleL, v_tupleT, v_tupD, v_lstD, v_lstR, v_slT, v_slL, v_slF, w_slS, defD_rt, defD_nx, defD_ex, defD_bk, defD_ct, AV.bl.injEq, AV.int.injEq, Option.some.injEq, exists_eq_left', tyS, if_true, if_false, Bool.false_eq_true, true_and, and_true, w_la hM, hin]
    rw [getK_la]
    cases e : lookL l b with
    | none =>
      try simp -implicitDefEqProofs only [List.map_cons, List.map_nil, List.cons_append, List.nil_append, List.replicate, List.set_cons_succ, List.set_cons_zero, wipeG, wpS_then, wpS_set, wpS_if, wpS_mret, wpS_retN, wpS_mnext, wpS_mbrk, wpS_mcnt, wpS_exp, wpS_asg, wpS_for, w_c, w_bin, w_un, w_ifE, w_andV, w_orV, w_notV, w_call, w_chain, w_meth, w_meth0, w_sl, w_noPart, w_part, w_nil, w_cons, w_bl, w_tru, w_and, w_or, w_not, w_lcV, w_lcR, w_lc, w_seq, w_rng1, w_rng2, w_var0, w_var1, w_var2, w_var3, w_var4, w_var5, w_var6, w_var7, w_var8, w_var9, w_var10, w_var11, w_var12, w_var13, w_var14, w_var15, w_var16, w_var17, w_var18, w_var19, w_var20, w_dictT, w_dictK, w_callK, wpR_ok, wpR_sized, v_nm, v_addI, v_addS, v_addT, v_addL, v_sub, v_neg, w_mul, w_div, w_mod, w_pow, v_ordI, v_eqI, v_neI, v_eqS, v_neS, v_lenS, v_lenL, v_lenF, v_lenT, v_truB, v_seqS, v_seqT, v_seqL, v_seqF, v_listT, v_listL, v_tupleL, v_tupleT, v_tupD, v_lstD, v_lstR, v_slT, v_slL, v_slF, w_slS, defD_rt, defD_nx, defD_ex, defD_bk, defD_ct, AV.bl.injEq, AV.int.injEq, Option.some.injEq, exists_eq_left', tyS, if_true, if_false, Bool.false_eq_true, true_and, and_true, Option.map_none, Option.isSome_none]
      rw [hb5]
      refine ⟨by simp, [], by simp, by simp, by simp, rfl, ?_⟩
      have := hM.push (.lst [])
      rwa [List.append_nil] at this
    | some n =>
      have hix : gIx (.ref 3) (.str b) M = .ok (nameA n) M := f_ixK (i := 2) hM rfl rfl (by rw [getK_la, e]; rfl)
      have hlb := hla b
      rw [e] at hlb
      try simp -implicitDefEqProofs only [List.map_cons, List.map_nil, List.cons_append, List.nil_append, List.replicate, List.set_cons_succ, List.set_cons_zero, wipeG, wpS_then, wpS_set, wpS_if, wpS_mret, wpS_retN, wpS_mnext, wpS_mbrk, wpS_mcnt, wpS_exp, wpS_asg, wpS_for, w_c, w_bin, w_un, w_ifE, w_andV, w_orV, w_notV, w_call, w_chain, w_meth, w_meth0, w_sl, w_noPart, w_part, w_nil, w_cons, w_bl, w_tru, w_and, w_or, w_not, w_lcV, w_lcR, w_lc, w_seq, w_rng1, w_rng2, w_var0, w_var1, w_var2, w_var3, w_var4, w_var5, w_var6, w_var7, w_var8, w_var9, w_var10, w_var11, w_var12, w_var13, w_var14, w_var15, w_var16, w_var17, w_var18, w_var19, w_var20, w_dictT, w_dictK, w_callK, wpR_ok, wpR_sized, v_nm, v_addI, v_addS, v_addT, v_addL, v_sub, v_neg, w_mul, w_div, w_mod, w_pow, v_ordI, v_eqI, v_neI, v_eqS, v_neS, v_lenS, v_lenL, v_lenF, v_lenT, v_truB, v_seqS, v_seqT, v_seqL, v_seqF, v_listT, v_listL, v_tupleL, v_tupleT, v_tupD, v_lstD, v_lstR, v_slT, v_slL, v_slF, w_slS, defD_rt, defD_nx, defD_ex, defD_bk, defD_ct, AV.bl.injEq, AV.int.injEq, Option.some.injEq, exists_eq_left', tyS, if_true, if_false, Bool.false_eq_true, true_and, and_true, Option.map_some, Option.isSome_some, w_la hM, hix]
      rw [hb5]
      refine ⟨by simp, [n], by simp; exact List.mem_map.mp hlb.1, by simp, by simp, rfl, ?_⟩
      have := hM.push (.lst [nameA n])
      rwa [List.append_nil] at this
  rintro _ M ⟨g, hg, hgl, hgb, rfl, hM⟩
  -- one ground more
  refine wp_seq (fun G M => ∃ g : List Nm, (∀ x ∈ g, x ∈ namesW w) ∧ (∀ n, lookL l b = some n → n ∈ g) ∧ G = stE ws (some (.str b)) (some (.lst ((sortN (namesW w)).map nameA))) (some (.ref 6)) none none none none none none none none ∧ Fs (wrest w l h ++ [.lst (g.map nameA)]) [] M) ?_ ?_
  · unfold stE
    have done : ∀ M', Fs (wrest w l h ++ [.lst (g.map nameA)]) [] M' → ∃ g' : List Nm, (∀ x ∈ g', x ∈ namesW w) ∧ (∀ n, lookL l b = some n → n ∈ g') ∧ Fs (wrest w l h ++ [.lst (g'.map nameA)]) [] M' := fun M' hF => ⟨g, hg, hgb, hF⟩
    try simp -implicitDefEqProofs only [List.map_cons, List.map_nil, List.cons_append, List.nil_append, List.replicate, List.set_cons_succ, List.set_cons_zero, wipeG, wpS_then, wpS_set, wpS_if, wpS_mret, wpS_retN, wpS_mnext, wpS_mbrk, wpS_mcnt, wpS_exp, wpS_asg, wpS_for, w_c, w_bin, w_un, w_ifE, w_andV, w_orV, w_notV, w_call, w_chain, w_meth, w_meth0, w_sl, w_noPart, w_part, w_nil, w_cons, w_bl, w_tru, w_and, w_or, w_not, w_lcV, w_lcR, w_lc, w_seq, w_rng1, w_rng2, w_var0, w_var1, w_var2, w_var3, w_var4, w_var5, w_var6, w_var7, w_var8, w_var9, w_var10, w_var11, w_var12, w_var13, w_var14, w_var15, w_var16, w_var17, w_var18, w_var19, w_var20, w_dictT, w_dictK, w_callK, wpR_ok, wpR_sized, v_nm, v_addI, v_addS, v_addT, v_addL, v_sub, v_neg, w_mul, w_div, w_mod, w_pow, v_ordI, v_eqI, v_neI, v_eqS, v_neS, v_lenS, v_lenL, v_lenF, v_lenT, v_truB, v_seqS, v_seqT, v_seqL, v_seqF, v_listT, v_listL, v_tupleL, v_tupleT, v_tupD, v_lstD, v_lstR, v_slT, v_slL, v_slF, w_slS, defD_rt, defD_nx, defD_ex, defD_bk, defD_ct, AV.bl.injEq, AV.int.injEq, Option.some.injEq, exists_eq_left', tyS, if_true, if_false, Bool.false_eq_true, true_and, and_true, v_neL0 (plain_namesL (sortN (namesW w)))]
    refine ⟨by simp, ?_⟩
    split
    · rename_i hne
      have hpos : 0 < (sortN (namesW w)).length := by
        cases e : sortN (namesW w) with
        | nil => simp [e] at hne
        | cons a r => simp
      refine d_draw h0 hM (by decide) (by decide) fun n M1 n0 n1 h1 => ?_
      try simp -implicitDefEqProofs only [List.map_cons, List.map_nil, List.cons_append, List.nil_append, List.replicate, List.set_cons_succ, List.set_cons_zero, wipeG, wpS_then, wpS_set, wpS_if, wpS_mret, wpS_retN, wpS_mnext, wpS_mbrk, wpS_mcnt, wpS_exp, wpS_asg, wpS_for, w_c, w_bin, w_un, w_ifE, w_andV, w_orV, w_notV, w_call, w_chain, w_meth, w_meth0, w_sl, w_noPart, w_part, w_nil, w_cons, w_bl, w_tru, w_and, w_or, w_not, w_lcV, w_lcR, w_lc, w_seq, w_rng1, w_rng2, w_var0, w_var1, w_var2, w_var3, w_var4, w_var5, w_var6, w_var7, w_var8, w_var9, w_var10, w_var11, w_var12, w_var13, w_var14, w_var15, w_var16, w_var17, w_var18, w_var19, w_var20, w_dictT, w_dictK, w_callK, wpR_ok, wpR_sized, v_nm, v_addI, v_addS, v_addT, v_addL, v_sub, v_neg, w_mul, w_div, w_mod, w_pow, v_ordI, v_eqI, v_neI, v_eqS, v_neS, v_lenS, v_lenL, v_lenF, v_lenT, v_truB, v_seqS, v_seqT, v_seqL, v_seqF, v_listT, v_listL, v_tupleL, v_tupleT, v_tupD, v_lstD, v_lstR, v_slT, v_slL, v_slF, w_slS, defD_rt, defD_nx, defD_ex, defD_bk, defD_ct, AV.bl.injEq, AV.int.injEq, Option.some.injEq, exists_eq_left', tyS, if_true, if_false, Bool.false_eq_true, true_and, and_true]
      split
      · refine ⟨f_tyL (i := 5) h1 rfl, ?_⟩
        have hls := len_sortN (namesW w)
        have hlw : (namesW w).length = w.length := List.length_map _
        refine d_draw h0 h1 (by simp; omega) (by simp; omega) fun k M2 k0 k1 h2 => ?_
        refine w_one k0 (by simpa using k1) fun a ha => ?_
        obtain ⟨n, hn, rfl⟩ := List.mem_map.mp ha
        refine f_append (i := 5) (xs := g.map nameA) h2 rfl (by simp; omega) fun M3 h3 => ?_
        have es : (wrest w l h ++ [AV.lst (g.map nameA)]).set 5 (.lst (g.map nameA ++ [nameA n])) = wrest w l h ++ [.lst ((g ++ [n]).map nameA)] := by
          rw [List.map_append]
          rfl
        rw [es] at h3
        refine ⟨g ++ [n], fun x hx => ?_, fun m hm => List.mem_append_left _ (hgb m hm), h3⟩
        rcases List.mem_append.mp hx with z | z
        · exact hg x z
        · rw [List.mem_singleton.mp z]
          exact mem_sortN.mp hn
      · exact done _ h1
    · exact done _ hM
  clear hg hgl hgb
  rintro _ M ⟨g, hg, hgb, rfl, hM⟩
  -- what is wanted
  refine wp_seq (fun G M => G = stE ws (some (.str b)) (some (.lst ((sortN (namesW w)).map nameA))) (some (.ref 6)) (some (.ref 7)) none none none none none none none ∧ Fs (wrest w l h ++ [.lst (g.map nameA), .dT (trueK [])]) [] M) ?_ ?_
  · have hb6 : M.objs.length = 7 := hM.len
    unfold stE
    try simp -implicitDefEqProofs only [List.map_cons, List.map_nil, List.cons_append, List.nil_append, List.replicate, List.set_cons_succ, List.set_cons_zero, wipeG, wpS_then, wpS_set, wpS_if, wpS_mret, wpS_retN, wpS_mnext, wpS_mbrk, wpS_mcnt, wpS_exp, wpS_asg, wpS_for, w_c, w_bin, w_un, w_ifE, w_andV, w_orV, w_notV, w_call, w_chain, w_meth, w_meth0, w_sl, w_noPart, w_part, w_nil, w_cons, w_bl, w_tru, w_and, w_or, w_not, w_lcV, w_lcR, w_lc, w_seq, w_rng1, w_rng2, w_var0, w_var1, w_var2, w_var3, w_var4, w_var5, w_var6, w_var7, w_var8, w_var9, w_var10, w_var11, w_var12, w_var13, w_var14, w_var15, w_var16, w_var17, w_var18, w_var19, w_var20, w_dictT, w_dictK, w_callK, wpR_ok, wpR_sized, v_nm, v_addI, v_addS, v_addT, v_addL, v_sub, v_neg, w_mul, w_div, w_mod, w_pow, v_ordI, v_eqI, v_neI, v_eqS, v_neS, v_lenS, v_lenL, v_lenF, v_lenT, v_truB, v_seqS, v_seqT, v_seqL, v_seqF, v_listT, v_listL, v_tupleL, v_tupleT, v_tupD, v_lstD, v_lstR, v_slT, v_slL, v_slF, w_slS, defD_rt, defD_nx, defD_ex, defD_bk, defD_ct, AV.bl.injEq, AV.int.injEq, Option.some.injEq, exists_eq_left', tyS, if_true, if_false, Bool.false_eq_true, true_and, and_true]
    rw [hb6]
    have := hM.push (.dT [])
    rw [List.append_assoc] at this
    exact ⟨rfl, this⟩
  rintro _ M ⟨rfl, hM⟩
  refine wp_seq (fun G M => ∃ o7 o8, G = stE ws (some (.str b)) (some (.lst ((sortN (namesW w)).map nameA))) (some (.ref 6)) (some (.ref 7)) o7 o8 none none none none none ∧ Fs (wrest w l h ++ [.lst (g.map nameA), .dT (trueK (addAll (fun n => knowsW w n ++ [n]) [] g))]) [] M) ?_ ?_
  · have hsq : seqOf M (.ref 6) = some ⟨g.map nameA, some 6⟩ := f_seq (i := 5) hM rfl
    unfold stE
    rw [wpS_for]
    try simp -implicitDefEqProofs only [List.map_cons, List.map_nil, List.cons_append, List.nil_append, List.replicate, List.set_cons_succ, List.set_cons_zero, wipeG, wpS_then, wpS_set, wpS_if, wpS_mret, wpS_retN, wpS_mnext, wpS_mbrk, wpS_mcnt, wpS_exp, wpS_asg, wpS_for, w_c, w_bin, w_un, w_ifE, w_andV, w_orV, w_notV, w_call, w_chain, w_meth, w_meth0, w_sl, w_noPart, w_part, w_nil, w_cons, w_bl, w_tru, w_and, w_or, w_not, w_lcV, w_lcR, w_lc, w_seq, w_rng1, w_rng2, w_var0, w_var1, w_var2, w_var3, w_var4, w_var5, w_var6, w_var7, w_var8, w_var9, w_var10, w_var11, w_var12, w_var13, w_var14, w_var15, w_var16, w_var17, w_var18, w_var19, w_var20, w_dictT, w_dictK, w_callK, wpR_ok, wpR_sized, v_nm, v_addI, v_addS, v_addT, v_addL, v_sub, v_neg, w_mul, w_div, w_mod, w_pow, v_ordI, v_eqI, v_neI, v_eqS, v_neS, v_lenS, v_lenL, v_lenF, v_lenT, v_truB, v_seqS, v_seqT, v_seqL, v_seqF, v_listT, v_listL, v_tupleL, v_tupleT, v_tupD, v_lstD, v_lstR, v_slT, v_slL, v_slF, w_slS, defD_rt, defD_nx, defD_ex, defD_bk, defD_ct, AV.bl.injEq, AV.int.injEq, Option.some.injEq, exists_eq_left', tyS, if_true, if_false, Bool.false_eq_true, true_and, and_true, hsq]
    have hknow := hw.trans
    refine wp_fold nameA (fun acc n => insAll acc (knowsW w n ++ [n])) (fun s G M => Fs (wrest w l h ++ [.lst (g.map nameA), .dT (trueK s)]) [] M ∧ s.Nodup ∧ (∀ x ∈ s, x ∈ namesW w) ∧ ∃ o7 o8, G = stE ws (some (.str b)) (some (.lst ((sortN (namesW w)).map nameA))) (some (.ref 6)) (some (.ref 7)) o7 o8 none none none none none) (fun s G M hI => f_held (i := 5) hI.1 rfl) g [] _ _ ⟨hM, by simp, by simp, none, none, rfl⟩ ?_ ?_
    · rintro s n G M hn ⟨hF, hnd, hsb, o7, o8, rfl⟩
      obtain ⟨r, e1, hr, e2, e3⟩ := knows_in (hg n hn)
      have hkn := w_knAt hF e1
      have hkl := hknow n (hg n hn)
      rw [e3] at hkl
      have hrl : r.floor.length ≤ 20 := by
        have := nd_len r.floor (namesW w) hkl.2 fun x hx => (hkl.1 x hx).1
        simp only [namesW, List.length_map] at this
        omega
      unfold stE
      try simp -implicitDefEqProofs only [List.map_cons, List.map_nil, List.cons_append, List.nil_append, List.replicate, List.set_cons_succ, List.set_cons_zero, wipeG, wpS_then, wpS_set, wpS_if, wpS_mret, wpS_retN, wpS_mnext, wpS_mbrk, wpS_mcnt, wpS_exp, wpS_asg, wpS_for, w_c, w_bin, w_un, w_ifE, w_andV, w_orV, w_notV, w_call, w_chain, w_meth, w_meth0, w_sl, w_noPart, w_part, w_nil, w_cons, w_bl, w_tru, w_and, w_or, w_not, w_lcV, w_lcR, w_lc, w_seq, w_rng1, w_rng2, w_var0, w_var1, w_var2, w_var3, w_var4, w_var5, w_var6, w_var7, w_var8, w_var9, w_var10, w_var11, w_var12, w_var13, w_var14, w_var15, w_var16, w_var17, w_var18, w_var19, w_var20, w_dictT, w_dictK, w_callK, wpR_ok, wpR_sized, v_nm, v_addI, v_addS, v_addT, v_addL, v_sub, v_neg, w_mul, w_div, w_mod, w_pow, v_ordI, v_eqI, v_neI, v_eqS, v_neS, v_lenS, v_lenL, v_lenF, v_lenT, v_truB, v_seqS, v_seqT, v_seqL, v_seqF, v_listT, v_listL, v_tupleL, v_tupleT, v_tupD, v_lstD, v_lstR, v_slT, v_slL, v_slF, w_slS, defD_rt, defD_nx, defD_ex, defD_bk, defD_ct, AV.bl.injEq, AV.int.injEq, Option.some.injEq, exists_eq_left', tyS, if_true, if_false, Bool.false_eq_true, true_and, and_true, w_kn hF, hkn, flA]
      refine ⟨by simp, by simp; omega, ?_⟩
      rw [show r.floor.map nameA ++ [nameA n] = (r.floor ++ [n]).map nameA by simp]
      refine d_wanted (w := w) (iv := 6) (n := n) (s := s) (xs := r.floor ++ [n]) rfl hF rfl hnd hsb (fun x hx => ?_) hl 8 (by simp) (fun v M => rfl) fun M' h' v => ?_
      · rcases List.mem_append.mp hx with z | z
        · exact (hkl.1 x z).1
        · rw [List.mem_singleton.mp z]
          exact hg n hn
      · refine ⟨?_, nd_insAll hnd, fun x hx => ?_, some (nameA n), v, rfl⟩
        · rw [e3]
          exact h'
        · rw [e3] at hx
          rcases mem_insAll.mp hx with z | z
          · exact hsb x z
          · rcases List.mem_append.mp z with z | z
            · exact (hkl.1 x z).1
            · rw [List.mem_singleton.mp z]
              exact hg n hn
    · rintro G M ⟨hF, hnd, hsb, o7, o8, rfl⟩
      exact ⟨o7, o8, rfl, hF⟩
  rintro _ M ⟨o7, o8, rfl, hM⟩
  have hknow := hw.trans
  have hwa : ∀ x, x ∈ addAll (fun n => knowsW w n ++ [n]) [] g ↔ ∃ n ∈ g, x ∈ knowsW w n ∨ x = n := fun x => by
    rw [mem_addAll]
    simp
  have hwn : (addAll (fun n => knowsW w n ++ [n]) [] g).Nodup := nd_addAll (by simp)
  generalize addAll (fun n => knowsW w n ++ [n]) [] g = wa at hwa hwn hM
  -- the floor
  refine wp_seq (fun G M => G = stE ws (some (.str b)) (some (.lst ((sortN (namesW w)).map nameA))) (some (.ref 6)) (some (.ref 7)) o7 o8 (some (.lst ((sortN wa).map nameA))) none none none none ∧ Fs (wrest w l h ++ [.lst (g.map nameA), .dT (trueK wa)]) [] M) ?_ ?_
  · have hs : gSorted [.ref 7] M = .ok (.lst ((sortN (wa.map id)).map nameA)) M := f_sortN (i := 6) (f := id) (g := fun _ => .bl true) (w := wa) hM rfl
    rw [List.map_id] at hs
    unfold stE
    try simp -implicitDefEqProofs only [List.map_cons, List.map_nil, List.cons_append, List.nil_append, List.replicate, List.set_cons_succ, List.set_cons_zero, wipeG, wpS_then, wpS_set, wpS_if, wpS_mret, wpS_retN, wpS_mnext, wpS_mbrk, wpS_mcnt, wpS_exp, wpS_asg, wpS_for, w_c, w_bin, w_un, w_ifE, w_andV, w_orV, w_notV, w_call, w_chain, w_meth, w_meth0, w_sl, w_noPart, w_part, w_nil, w_cons, w_bl, w_tru, w_and, w_or, w_not, w_lcV, w_lcR, w_lc, w_seq, w_rng1, w_rng2, w_var0, w_var1, w_var2, w_var3, w_var4, w_var5, w_var6, w_var7, w_var8, w_var9, w_var10, w_var11, w_var12, w_var13, w_var14, w_var15, w_var16, w_var17, w_var18, w_var19, w_var20, w_dictT, w_dictK, w_callK, wpR_ok, wpR_sized, v_nm, v_addI, v_addS, v_addT, v_addL, v_sub, v_neg, w_mul, w_div, w_mod, w_pow, v_ordI, v_eqI, v_neI, v_eqS, v_neS, v_lenS, v_lenL, v_lenF, v_lenT, v_truB, v_seqS, v_seqT, v_seqL, v_seqF, v_listT, v_listL, v_tupleL, v_tupleT, v_tupD, v_lstD, v_lstR, v_slT, v_slL, v_slF, w_slS, defD_rt, defD_nx, defD_ex, defD_bk, defD_ct, AV.bl.injEq, AV.int.injEq, Option.some.injEq, exists_eq_left', tyS, if_true, if_false, Bool.false_eq_true, true_and, and_true, hs]
    exact hM
  rintro _ M ⟨rfl, hM⟩
  have hfl : ∀ x, x ∈ sortN wa ↔ ∃ n ∈ g, x ∈ knowsW w n ∨ x = n := fun x => mem_sortN.trans (hwa x)
  have hfn : (sortN wa).Nodup := nd_sortN hwn
  have hfso : ∃ L, sortN wa = sortN L := ⟨wa, rfl⟩
  generalize sortN wa = fl at hfl hfn hfso hM
  have hfw : ∀ x ∈ fl, x ∈ namesW w := fun x hx => by
    obtain ⟨n, hn, z⟩ := (hfl x).mp hx
    rcases z with z | z
    · exact ((hknow n (hg n hn)).1 x z).1
    · exact z ▸ hg n hn
  have hfc : ∀ x ∈ fl, ∀ y ∈ knowsW w x, y ∈ fl := fun x hx y hy => by
    obtain ⟨n, hn, z⟩ := (hfl x).mp hx
    refine (hfl y).mpr ⟨n, hn, .inl ?_⟩
    rcases z with z | z
    · exact ((hknow n (hg n hn)).1 x z).2.2 y hy
    · exact z ▸ hy
  have hfll : fl.length ≤ 20 := by
    have := nd_len fl (namesW w) hfn hfw
    simp only [namesW, List.length_map] at this
    omega
  -- what is below
  refine wp_seq (fun G M => G = stE ws (some (.str b)) (some (.lst ((sortN (namesW w)).map nameA))) (some (.ref 6)) (some (.ref 7)) o7 o8 (some (.lst (fl.map nameA))) (some (.ref 8)) none none none ∧ Fs (wrest w l h ++ [.lst (g.map nameA), .dT (trueK wa), .dT (trueK [])]) [] M) ?_ ?_
  · have hb6 : M.objs.length = 8 := hM.len
    unfold stE
    try simp -implicitDefEqProofs only [List.map_cons, List.map_nil, List.cons_append, List.nil_append, List.replicate, List.set_cons_succ, List.set_cons_zero, wipeG, wpS_then, wpS_set, wpS_if, wpS_mret, wpS_retN, wpS_mnext, wpS_mbrk, wpS_mcnt, wpS_exp, wpS_asg, wpS_for, w_c, w_bin, w_un, w_ifE, w_andV, w_orV, w_notV, w_call, w_chain, w_meth, w_meth0, w_sl, w_noPart, w_part, w_nil, w_cons, w_bl, w_tru, w_and, w_or, w_not, w_lcV, w_lcR, w_lc, w_seq, w_rng1, w_rng2, w_var0, w_var1, w_var2, w_var3, w_var4, w_var5, w_var6, w_var7, w_var8, w_var9, w_var10, w_var11, w_var12, w_var13, w_var14, w_var15, w_var16, w_var17, w_var18, w_var19, w_var20, w_dictT, w_dictK, w_callK, wpR_ok, wpR_sized, v_nm, v_addI, v_addS, v_addT, v_addL, v_sub, v_neg, w_mul, w_div, w_mod, w_pow, v_ordI, v_eqI, v_neI, v_eqS, v_neS, v_lenS, v_lenL, v_lenF, v_lenT, v_truB, v_seqS, v_seqT, v_seqL, v_seqF, v_listT, v_listL, v_tupleL, v_tupleT, v_tupD, v_lstD, v_lstR, v_slT, v_slL, v_slF, w_slS, defD_rt, defD_nx, defD_ex, defD_bk, defD_ct, AV.bl.injEq, AV.int.injEq, Option.some.injEq, exists_eq_left', tyS, if_true, if_false, Bool.false_eq_true, true_and, and_true]
    rw [hb6]
    have := hM.push (.dT [])
    rw [List.append_assoc] at this
    exact ⟨rfl, this⟩
  rintro _ M ⟨rfl, hM⟩
  refine wp_seq (fun G M => ∃ o7 o8, G = stE ws (some (.str b)) (some (.lst ((sortN (namesW w)).map nameA))) (some (.ref 6)) (some (.ref 7)) o7 o8 (some (.lst (fl.map nameA))) (some (.ref 8)) none none none ∧ Fs (wrest w l h ++ [.lst (g.map nameA), .dT (trueK wa), .dT (trueK (addAll (knowsW w) [] fl))]) [] M) ?_ ?_
  · unfold stE
    rw [wpS_for]
    try simp -implicitDefEqProofs only [List.map_cons, List.map_nil, List.cons_append, List.nil_append, List.replicate, List.set_cons_succ, List.set_cons_zero, wipeG, wpS_then, wpS_set, wpS_if, wpS_mret, wpS_retN, wpS_mnext, wpS_mbrk, wpS_mcnt, wpS_exp, wpS_asg, wpS_for, w_c, w_bin, w_un, w_ifE, w_andV, w_orV, w_notV, w_call, w_chain, w_meth, w_meth0, w_sl, w_noPart, w_part, w_nil, w_cons, w_bl, w_tru, w_and, w_or, w_not, w_lcV, w_lcR, w_lc, w_seq, w_rng1, w_rng2, w_var0, w_var1, w_var2, w_var3, w_var4, w_var5, w_var6, w_var7, w_var8, w_var9, w_var10, w_var11, w_var12, w_var13, w_var14, w_var15, w_var16, w_var17, w_var18, w_var19, w_var20, w_dictT, w_dictK, w_callK, wpR_ok, wpR_sized, v_nm, v_addI, v_addS, v_addT, v_addL, v_sub, v_neg, w_mul, w_div, w_mod, w_pow, v_ordI, v_eqI, v_neI, v_eqS, v_neS, v_lenS, v_lenL, v_lenF, v_lenT, v_truB, v_seqS, v_seqT, v_seqL, v_seqF, v_listT, v_listL, v_tupleL, v_tupleT, v_tupD, v_lstD, v_lstR, v_slT, v_slL, v_slF, w_slS, defD_rt, defD_nx, defD_ex, defD_bk, defD_ct, AV.bl.injEq, AV.int.injEq, Option.some.injEq, exists_eq_left', tyS, if_true, if_false, Bool.false_eq_true, true_and, and_true]
    refine wp_fold (S := ⟨_, none⟩) nameA (fun acc n => insAll acc (knowsW w n)) (fun s G M => Fs (wrest w l h ++ [.lst (g.map nameA), .dT (trueK wa), .dT (trueK s)]) [] M ∧ s.Nodup ∧ (∀ x ∈ s, x ∈ namesW w) ∧ ∃ o7 o8, G = stE ws (some (.str b)) (some (.lst ((sortN (namesW w)).map nameA))) (some (.ref 6)) (some (.ref 7)) o7 o8 (some (.lst (fl.map nameA))) (some (.ref 8)) none none none) (fun s G M hI => trivial) fl [] _ _ ⟨hM, by simp, by simp, o7, o8, rfl⟩ ?_ ?_
    · rintro s n G M hn ⟨hF, hnd, hsb, o7, o8, rfl⟩
      obtain ⟨r, e1, hr, e2, e3⟩ := knows_in (hfw n hn)
      have hkn := w_knAt hF e1
      have hkl := hknow n (hfw n hn)
      rw [e3] at hkl
      unfold stE
      try simp -implicitDefEqProofs only [List.map_cons, List.map_nil, List.cons_append, List.nil_append, List.replicate, List.set_cons_succ, List.set_cons_zero, wipeG, wpS_then, wpS_set, wpS_if, wpS_mret, wpS_retN, wpS_mnext, wpS_mbrk, wpS_mcnt, wpS_exp, wpS_asg, wpS_for, w_c, w_bin, w_un, w_ifE, w_andV, w_orV, w_notV, w_call, w_chain, w_meth, w_meth0, w_sl, w_noPart, w_part, w_nil, w_cons, w_bl, w_tru, w_and, w_or, w_not, w_lcV, w_lcR, w_lc, w_seq, w_rng1, w_rng2, w_var0, w_var1, w_var2, w_var3, w_var4, w_var5, w_var6, w_var7, w_var8, w_var9, w_var10, w_var11, w_var12, w_var13, w_var14, w_var15, w_var16, w_var17, w_var18, w_var19, w_var20, w_dictT, w_dictK, w_callK, wpR_ok, wpR_sized, v_nm, v_addI, v_addS, v_addT, v_addL, v_sub, v_neg, w_mul, w_div, w_mod, w_pow, v_ordI, v_eqI, v_neI, v_eqS, v_neS, v_lenS, v_lenL, v_lenF, v_lenT, v_truB, v_seqS, v_seqT, v_seqL, v_seqF, v_listT, v_listL, v_tupleL, v_tupleT, v_tupD, v_lstD, v_lstR, v_slT, v_slL, v_slF, w_slS, defD_rt, defD_nx, defD_ex, defD_bk, defD_ct, AV.bl.injEq, AV.int.injEq, Option.some.injEq, exists_eq_left', tyS, if_true, if_false, Bool.false_eq_true, true_and, and_true, w_kn hF, hkn, flA]
      refine d_wanted (w := w) (iv := 7) (n := n) (s := s) (xs := r.floor) rfl hF rfl hnd hsb (fun x hx => (hkl.1 x hx).1) hl 7 (by simp) (fun v M => rfl) fun M' h' v => ?_
      refine ⟨?_, nd_insAll hnd, fun x hx => ?_, v, some (nameA n), rfl⟩
      · rw [e3]
        exact h'
      · rw [e3] at hx
        rcases mem_insAll.mp hx with z | z
        · exact hsb x z
        · exact (hkl.1 x z).1
    · rintro G M ⟨hF, hnd, hsb, o7, o8, rfl⟩
      exact ⟨o7, o8, rfl, hF⟩
  clear o7 o8
  rintro _ M ⟨o7, o8, rfl, hM⟩
  have hbe : ∀ x, x ∈ addAll (knowsW w) [] fl ↔ ∃ y ∈ fl, x ∈ knowsW w y := fun x => by
    rw [mem_addAll]
    simp
  generalize addAll (knowsW w) [] fl = be at hbe hM
  -- the base
  have hba : ∀ x, (!decide (x ∈ be)) = decide (∀ y ∈ fl, x ∉ knowsW w y) := fun x => by
    rw [← decide_not]
    apply decide_eq_decide.mpr
    rw [hbe]
    exact ⟨fun z y hy hx => z ⟨y, hy, hx⟩, fun z ⟨y, hy, hx⟩ => z y hy hx⟩
  refine wp_seq (fun G M => G = stE ws (some (.str b)) (some (.lst ((sortN (namesW w)).map nameA))) (some (.ref 6)) (some (.ref 7)) o7 o8 (some (.lst (fl.map nameA))) (some (.ref 8)) (some (.tup ((fl.filter fun x => decide (∀ y ∈ fl, x ∉ knowsW w y)).map nameA))) none none ∧ Fs (wrest w l h ++ [.lst (g.map nameA), .dT (trueK wa), .dT (trueK be)]) [] M) ?_ ?_
  · unfold stE
    try simp -implicitDefEqProofs only [List.map_cons, List.map_nil, List.cons_append, List.nil_append, List.replicate, List.set_cons_succ, List.set_cons_zero, wipeG, wpS_then, wpS_set, wpS_if, wpS_mret, wpS_retN, wpS_mnext, wpS_mbrk, wpS_mcnt, wpS_exp, wpS_asg, wpS_for, w_c, w_bin, w_un, w_ifE, w_andV, w_orV, w_notV, w_call, w_chain, w_meth, w_meth0, w_sl, w_noPart, w_part, w_nil, w_cons, w_bl, w_tru, w_and, w_or, w_not, w_lcV, w_lcR, w_lc, w_seq, w_rng1, w_rng2, w_var0, w_var1, w_var2, w_var3, w_var4, w_var5, w_var6, w_var7, w_var8, w_var9, w_var10, w_var11, w_var12, w_var13, w_var14, w_var15, w_var16, w_var17, w_var18, w_var19, w_var20, w_dictT, w_dictK, w_callK, wpR_ok, wpR_sized, v_nm, v_addI, v_addS, v_addT, v_addL, v_sub, v_neg, w_mul, w_div, w_mod, w_pow, v_ordI, v_eqI, v_neI, v_eqS, v_neS, v_lenS, v_lenL, v_lenF, v_lenT, v_truB, v_seqS, v_seqT, v_seqL, v_seqF, v_listT, v_listL, v_tupleL, v_tupleT, v_tupD, v_lstD, v_lstR, v_slT, v_slL, v_slF, w_slS, defD_rt, defD_nx, defD_ex, defD_bk, defD_ct, AV.bl.injEq, AV.int.injEq, Option.some.injEq, exists_eq_left', tyS, if_true, if_false, Bool.false_eq_true, true_and, and_true]
    have hlc := lcl_map (l0 := fl.map nameA) (t := gNm 8) (c := mBl (mBin (gIn true) (mVar 8) (mVar 10))) (el := mVar 8) (G := [some (.ref 0), some (.ref 5), some (.lst (ws.map .str)), some (.str b), some (.lst ((sortN (namesW w)).map nameA)), some (.ref 6), some (.ref 7), o7, none, some (.lst (fl.map nameA)), some (.ref 8), none, none, none]) (M := M) nameA (fun x => decide (∀ y ∈ fl, x ∉ knowsW w y)) nameA fl [] (by simp; omega) fun x hx => ⟨_, rfl, wpR_eq (by
      have hin : gIn true (nameA x) (.ref 8) M = .ok (.bl (if true then !(getK (trueK be) (nameK x)).isSome else (getK (trueK be) (nameK x)).isSome)) M := f_inT (i := 7) hM rfl (keyT_name x)
      rw [if_pos rfl, getK_isSome, List.map_id, hba] at hin
      try simp -implicitDefEqProofs only [List.map_cons, List.map_nil, List.cons_append, List.nil_append, List.replicate, List.set_cons_succ, List.set_cons_zero, wipeG, wpS_then, wpS_set, wpS_if, wpS_mret, wpS_retN, wpS_mnext, wpS_mbrk, wpS_mcnt, wpS_exp, wpS_asg, wpS_for, w_c, w_bin, w_un, w_ifE, w_andV, w_orV, w_notV, w_call, w_chain, w_meth, w_meth0, w_sl, w_noPart, w_part, w_nil, w_cons, w_bl, w_tru, w_and, w_or, w_not, w_lcV, w_lcR, w_lc, w_seq, w_rng1, w_rng2, w_var0, w_var1, w_var2, w_var3, w_var4, w_var5, w_var6, w_var7, w_var8, w_var9, w_var10, w_var11, w_var12, w_var13, w_var14, w_var15, w_var16, w_var17, w_var18, w_var19, w_var20, w_dictT, w_dictK, w_callK, wpR_ok, wpR_sized, v_nm, v_addI, v_addS, v_addT, v_addL, v_sub, v_neg, w_mul, w_div, w_mod, w_pow, v_ordI, v_eqI, v_neI, v_eqS, v_neS, v_lenS, v_lenL, v_lenF, v_lenT, v_truB, v_seqS, v_seqT, v_seqL, v_seqF, v_listT, v_listL, v_tupleL, v_tupleT, v_tupD, v_lstD, v_lstR, v_slT, v_slL, v_slF, w_slS, defD_rt, defD_nx, defD_ex, defD_bk, defD_ct, AV.bl.injEq, AV.int.injEq, Option.some.injEq, exists_eq_left', tyS, if_true, if_false, Bool.false_eq_true, true_and, and_true, hin]), fun _ => rfl⟩
    rw [List.nil_append] at hlc
    rw [hlc]
    try simp -implicitDefEqProofs only [List.map_cons, List.map_nil, List.cons_append, List.nil_append, List.replicate, List.set_cons_succ, List.set_cons_zero, wipeG, wpS_then, wpS_set, wpS_if, wpS_mret, wpS_retN, wpS_mnext, wpS_mbrk, wpS_mcnt, wpS_exp, wpS_asg, wpS_for, w_c, w_bin, w_un, w_ifE, w_andV, w_orV, w_notV, w_call, w_chain, w_meth, w_meth0, w_sl, w_noPart, w_part, w_nil, w_cons, w_bl, w_tru, w_and, w_or, w_not, w_lcV, w_lcR, w_lc, w_seq, w_rng1, w_rng2, w_var0, w_var1, w_var2, w_var3, w_var4, w_var5, w_var6, w_var7, w_var8, w_var9, w_var10, w_var11, w_var12, w_var13, w_var14, w_var15, w_var16, w_var17, w_var18, w_var19, w_var20, w_dictT, w_dictK, w_callK, wpR_ok, wpR_sized, v_nm, v_addI, v_addS, v_addT, v_addL, v_sub, v_neg, w_mul, w_div, w_mod, w_pow, v_ordI, v_eqI, v_neI, v_eqS, v_neS, v_lenS, v_lenL, v_lenF, v_lenT, v_truB, v_seqS, v_seqT, v_seqL, v_seqF, v_listT, v_listL, v_tupleL, v_tupleT, v_tupD, v_lstD, v_lstR, v_slT, v_slL, v_slF, w_slS, defD_rt, defD_nx, defD_ex, defD_bk, defD_ct, AV.bl.injEq, AV.int.injEq, Option.some.injEq, exists_eq_left', tyS, if_true, if_false, Bool.false_eq_true, true_and, and_true]
    exact hM
  rintro _ M ⟨rfl, hM⟩
  -- its own name
  refine wp_seq (fun G M => G = stE ws (some (.str b)) (some (.lst ((sortN (namesW w)).map nameA))) (some (.ref 6)) (some (.ref 7)) o7 o8 (some (.lst (fl.map nameA))) (some (.ref 8)) (some (.tup ((fl.filter fun x => decide (∀ y ∈ fl, x ∉ knowsW w y)).map nameA))) (some (nameA (1 + maxD0 0 (fl.map (·.1)), b))) none ∧ Fs (wrest w l h ++ [.lst (g.map nameA), .dT (trueK wa), .dT (trueK be)]) [] M) ?_ ?_
  · unfold stE
    try simp -implicitDefEqProofs only [List.map_cons, List.map_nil, List.cons_append, List.nil_append, List.replicate, List.set_cons_succ, List.set_cons_zero, wipeG, wpS_then, wpS_set, wpS_if, wpS_mret, wpS_retN, wpS_mnext, wpS_mbrk, wpS_mcnt, wpS_exp, wpS_asg, wpS_for, w_c, w_bin, w_un, w_ifE, w_andV, w_orV, w_notV, w_call, w_chain, w_meth, w_meth0, w_sl, w_noPart, w_part, w_nil, w_cons, w_bl, w_tru, w_and, w_or, w_not, w_lcV, w_lcR, w_lc, w_seq, w_rng1, w_rng2, w_var0, w_var1, w_var2, w_var3, w_var4, w_var5, w_var6, w_var7, w_var8, w_var9, w_var10, w_var11, w_var12, w_var13, w_var14, w_var15, w_var16, w_var17, w_var18, w_var19, w_var20, w_dictT, w_dictK, w_callK, wpR_ok, wpR_sized, v_nm, v_addI, v_addS, v_addT, v_addL, v_sub, v_neg, w_mul, w_div, w_mod, w_pow, v_ordI, v_eqI, v_neI, v_eqS, v_neS, v_lenS, v_lenL, v_lenF, v_lenT, v_truB, v_seqS, v_seqT, v_seqL, v_seqF, v_listT, v_listL, v_tupleL, v_tupleT, v_tupD, v_lstD, v_lstR, v_slT, v_slL, v_slF, w_slS, defD_rt, defD_nx, defD_ex, defD_bk, defD_ct, AV.bl.injEq, AV.int.injEq, Option.some.injEq, exists_eq_left', tyS, if_true, if_false, Bool.false_eq_true, true_and, and_true]
    have hlc := lcl_map (l0 := fl.map nameA) (t := gNm 8) (c := fun _ M => .ok true M) (el := mBin gIx (mVar 8) (mC (.int 0))) (G := [some (.ref 0), some (.ref 5), some (.lst (ws.map .str)), some (.str b), some (.lst ((sortN (namesW w)).map nameA)), some (.ref 6), some (.ref 7), o7, none, some (.lst (fl.map nameA)), some (.ref 8), some (.tup ((fl.filter fun x => decide (∀ y ∈ fl, x ∉ knowsW w y)).map nameA)), none, none]) (M := M) nameA (fun _ => true) (fun n => .int n.1) fl [] (by simp; omega) fun x hx => ⟨_, rfl, rfl, fun _ => wpR_eq (by
      have e0 : atI [AV.int x.1, .str x.2] 0 = some (.int x.1) := rfl
      try simp -implicitDefEqProofs only [List.map_cons, List.map_nil, List.cons_append, List.nil_append, List.replicate, List.set_cons_succ, List.set_cons_zero, wipeG, wpS_then, wpS_set, wpS_if, wpS_mret, wpS_retN, wpS_mnext, wpS_mbrk, wpS_mcnt, wpS_exp, wpS_asg, wpS_for, w_c, w_bin, w_un, w_ifE, w_andV, w_orV, w_notV, w_call, w_chain, w_meth, w_meth0, w_sl, w_noPart, w_part, w_nil, w_cons, w_bl, w_tru, w_and, w_or, w_not, w_lcV, w_lcR, w_lc, w_seq, w_rng1, w_rng2, w_var0, w_var1, w_var2, w_var3, w_var4, w_var5, w_var6, w_var7, w_var8, w_var9, w_var10, w_var11, w_var12, w_var13, w_var14, w_var15, w_var16, w_var17, w_var18, w_var19, w_var20, w_dictT, w_dictK, w_callK, wpR_ok, wpR_sized, v_nm, v_addI, v_addS, v_addT, v_addL, v_sub, v_neg, w_mul, w_div, w_mod, w_pow, v_ordI, v_eqI, v_neI, v_eqS, v_neS, v_lenS, v_lenL, v_lenF, v_lenT, v_truB, v_seqS, v_seqT, v_seqL, v_seqF, v_listT, v_listL, v_tupleL, v_tupleT, v_tupD, v_lstD, v_lstR, v_slT, v_slL, v_slF, w_slS, defD_rt, defD_nx, defD_ex, defD_bk, defD_ct, AV.bl.injEq, AV.int.injEq, Option.some.injEq, exists_eq_left', tyS, if_true, if_false, Bool.false_eq_true, true_and, and_true, nameA, w_ixT, e0]
      try simp)⟩
    rw [List.nil_append, List.filter_eq_self.mpr fun _ _ => rfl, show (fl.map fun n : Nm => AV.int n.1) = (fl.map (·.1)).map .int by rw [List.map_map]; rfl] at hlc
    rw [hlc]
    try simp -implicitDefEqProofs only [List.map_cons, List.map_nil, List.cons_append, List.nil_append, List.replicate, List.set_cons_succ, List.set_cons_zero, wipeG, wpS_then, wpS_set, wpS_if, wpS_mret, wpS_retN, wpS_mnext, wpS_mbrk, wpS_mcnt, wpS_exp, wpS_asg, wpS_for, w_c, w_bin, w_un, w_ifE, w_andV, w_orV, w_notV, w_call, w_chain, w_meth, w_meth0, w_sl, w_noPart, w_part, w_nil, w_cons, w_bl, w_tru, w_and, w_or, w_not, w_lcV, w_lcR, w_lc, w_seq, w_rng1, w_rng2, w_var0, w_var1, w_var2, w_var3, w_var4, w_var5, w_var6, w_var7, w_var8, w_var9, w_var10, w_var11, w_var12, w_var13, w_var14, w_var15, w_var16, w_var17, w_var18, w_var19, w_var20, w_dictT, w_dictK, w_callK, wpR_ok, wpR_sized, v_nm, v_addI, v_addS, v_addT, v_addL, v_sub, v_neg, w_mul, w_div, w_mod, w_pow, v_ordI, v_eqI, v_neI, v_eqS, v_neS, v_lenS, v_lenL, v_lenF, v_lenT, v_truB, v_seqS, v_seqT, v_seqL, v_seqF, v_listT, v_listL, v_tupleL, v_tupleT, v_tupD, v_lstD, v_lstR, v_slT, v_slL, v_slF, w_slS, defD_rt, defD_nx, defD_ex, defD_bk, defD_ct, AV.bl.injEq, AV.int.injEq, Option.some.injEq, exists_eq_left', tyS, if_true, if_false, Bool.false_eq_true, true_and, and_true, v_maxDf]
    exact ⟨by simp, rfl, hM⟩
  rintro _ M ⟨rfl, hM⟩
  -- the deed
  refine wp_seq (fun G M => ∃ d, DeedOk d ∧ G = stE ws (some (.str b)) (some (.lst ((sortN (namesW w)).map nameA))) (some (.ref 6)) (some (.ref 7)) o7 o8 (some (.lst (fl.map nameA))) (some (.ref 8)) (some (.tup ((fl.filter fun x => decide (∀ y ∈ fl, x ∉ knowsW w y)).map nameA))) (some (nameA (1 + maxD0 0 (fl.map (·.1)), b))) (some d) ∧ Fs (wrest w l h ++ [.lst (g.map nameA), .dT (trueK wa), .dT (trueK be)]) [] M) ?_ ?_
  · unfold stE
    try simp -implicitDefEqProofs only [List.map_cons, List.map_nil, List.cons_append, List.nil_append, List.replicate, List.set_cons_succ, List.set_cons_zero, wipeG, wpS_then, wpS_set, wpS_if, wpS_mret, wpS_retN, wpS_mnext, wpS_mbrk, wpS_mcnt, wpS_exp, wpS_asg, wpS_for, w_c, w_bin, w_un, w_ifE, w_andV, w_orV, w_notV, w_call, w_chain, w_meth, w_meth0, w_sl, w_noPart, w_part, w_nil, w_cons, w_bl, w_tru, w_and, w_or, w_not, w_lcV, w_lcR, w_lc, w_seq, w_rng1, w_rng2, w_var0, w_var1, w_var2, w_var3, w_var4, w_var5, w_var6, w_var7, w_var8, w_var9, w_var10, w_var11, w_var12, w_var13, w_var14, w_var15, w_var16, w_var17, w_var18, w_var19, w_var20, w_dictT, w_dictK, w_callK, wpR_ok, wpR_sized, v_nm, v_addI, v_addS, v_addT, v_addL, v_sub, v_neg, w_mul, w_div, w_mod, w_pow, v_ordI, v_eqI, v_neI, v_eqS, v_neS, v_lenS, v_lenL, v_lenF, v_lenT, v_truB, v_seqS, v_seqT, v_seqL, v_seqF, v_listT, v_listL, v_tupleL, v_tupleT, v_tupD, v_lstD, v_lstR, v_slT, v_slL, v_slF, w_slS, defD_rt, defD_nx, defD_ex, defD_bk, defD_ct, AV.bl.injEq, AV.int.injEq, Option.some.injEq, exists_eq_left', tyS, if_true, if_false, Bool.false_eq_true, true_and, and_true]
    exact d_deed hM hfw (fun r hr => (hw.deeds r hr).1) (fun x hx => hw.names x (hfw x hx)) (by omega) fun d M' hd h' => ⟨d, hd, rfl, h'⟩
  rintro _ M ⟨d, hd, rfl, hM⟩
  obtain ⟨s, dr, rfl⟩ := hd.hd
  -- hangs
  refine wp_seq (fun G M => ∃ h' : List Nm, h'.length ≤ h.length + 1 ∧ G = stE ws (some (.str b)) (some (.lst ((sortN (namesW w)).map nameA))) (some (.ref 6)) (some (.ref 7)) o7 o8 (some (.lst (fl.map nameA))) (some (.ref 8)) (some (.tup ((fl.filter fun x => decide (∀ y ∈ fl, x ∉ knowsW w y)).map nameA))) (some (nameA (1 + maxD0 0 (fl.map (·.1)), b))) (some (.tup (.str s :: dr))) ∧ Fs (wrest w l h' ++ [.lst (g.map nameA), .dT (trueK wa), .dT (trueK be)]) [] M) ?_ ?_
  · have e0 : atI (AV.str s :: dr) 0 = some (.str s) := by
      have : atI (AV.str s :: dr) 0 = ((AV.str s :: dr)[0]?) := by
        unfold atI ixN
        simp
      rw [this]
      rfl
    unfold stE
    try simp -implicitDefEqProofs only [List.map_cons, List.map_nil, List.cons_append, List.nil_append, List.replicate, List.set_cons_succ, List.set_cons_zero, wipeG, wpS_then, wpS_set, wpS_if, wpS_mret, wpS_retN, wpS_mnext, wpS_mbrk, wpS_mcnt, wpS_exp, wpS_asg, wpS_for, w_c, w_bin, w_un, w_ifE, w_andV, w_orV, w_notV, w_call, w_chain, w_meth, w_meth0, w_sl, w_noPart, w_part, w_nil, w_cons, w_bl, w_tru, w_and, w_or, w_not, w_lcV, w_lcR, w_lc, w_seq, w_rng1, w_rng2, w_var0, w_var1, w_var2, w_var3, w_var4, w_var5, w_var6, w_var7, w_var8, w_var9, w_var10, w_var11, w_var12, w_var13, w_var14, w_var15, w_var16, w_var17, w_var18, w_var19, w_var20, w_dictT, w_dictK, w_callK, wpR_ok, wpR_sized, v_nm, v_addI, v_addS, v_addT, v_addL, v_sub, v_neg, w_mul, w_div, w_mod, w_pow, v_ordI, v_eqI, v_neI, v_eqS, v_neS, v_lenS, v_lenL, v_lenF, v_lenT, v_truB, v_seqS, v_seqT, v_seqL, v_seqF, v_listT, v_listL, v_tupleL, v_tupleT, v_tupD, v_lstD, v_lstR, v_slT, v_slL, v_slF, w_slS, defD_rt, defD_nx, defD_ex, defD_bk, defD_ct, AV.bl.injEq, AV.int.injEq, Option.some.injEq, exists_eq_left', tyS, if_true, if_false, Bool.false_eq_true, true_and, and_true, w_ixT, e0]
    split
    · try simp -implicitDefEqProofs only [List.map_cons, List.map_nil, List.cons_append, List.nil_append, List.replicate, List.set_cons_succ, List.set_cons_zero, wipeG, wpS_then, wpS_set, wpS_if, wpS_mret, wpS_retN, wpS_mnext, wpS_mbrk, wpS_mcnt, wpS_exp, wpS_asg, wpS_for, w_c, w_bin, w_un, w_ifE, w_andV, w_orV, w_notV, w_call, w_chain, w_meth, w_meth0, w_sl, w_noPart, w_part, w_nil, w_cons, w_bl, w_tru, w_and, w_or, w_not, w_lcV, w_lcR, w_lc, w_seq, w_rng1, w_rng2, w_var0, w_var1, w_var2, w_var3, w_var4, w_var5, w_var6, w_var7, w_var8, w_var9, w_var10, w_var11, w_var12, w_var13, w_var14, w_var15, w_var16, w_var17, w_var18, w_var19, w_var20, w_dictT, w_dictK, w_callK, wpR_ok, wpR_sized, v_nm, v_addI, v_addS, v_addT, v_addL, v_sub, v_neg, w_mul, w_div, w_mod, w_pow, v_ordI, v_eqI, v_neI, v_eqS, v_neS, v_lenS, v_lenL, v_lenF, v_lenT, v_truB, v_seqS, v_seqT, v_seqL, v_seqF, v_listT, v_listL, v_tupleL, v_tupleT, v_tupD, v_lstD, v_lstR, v_slT, v_slL, v_slF, w_slS, defD_rt, defD_nx, defD_ex, defD_bk, defD_ct, AV.bl.injEq, AV.int.injEq, Option.some.injEq, exists_eq_left', tyS, if_true, if_false, Bool.false_eq_true, true_and, and_true, w_ha hM]
      refine ⟨f_tyL (i := 3) hM rfl, ?_⟩
      refine f_append (i := 3) (xs := h.map nameA) hM rfl (by simp; omega) fun M3 h3 => ?_
      have es : (wrest w l h ++ [AV.lst (g.map nameA), .dT (trueK wa), .dT (trueK be)]).set 3 (.lst (h.map nameA ++ [nameA (1 + maxD0 0 (fl.map (·.1)), b)])) = wrest w l (h ++ [(1 + maxD0 0 (fl.map (·.1)), b)]) ++ [.lst (g.map nameA), .dT (trueK wa), .dT (trueK be)] := by
        unfold wrest
        rw [List.map_append]
        rfl
      rw [es] at h3
      exact ⟨h ++ [(1 + maxD0 0 (fl.map (·.1)), b)], by simp, h3⟩
    · try simp -implicitDefEqProofs only [List.map_cons, List.map_nil, List.cons_append, List.nil_append, List.replicate, List.set_cons_succ, List.set_cons_zero, wipeG, wpS_then, wpS_set, wpS_if, wpS_mret, wpS_retN, wpS_mnext, wpS_mbrk, wpS_mcnt, wpS_exp, wpS_asg, wpS_for, w_c, w_bin, w_un, w_ifE, w_andV, w_orV, w_notV, w_call, w_chain, w_meth, w_meth0, w_sl, w_noPart, w_part, w_nil, w_cons, w_bl, w_tru, w_and, w_or, w_not, w_lcV, w_lcR, w_lc, w_seq, w_rng1, w_rng2, w_var0, w_var1, w_var2, w_var3, w_var4, w_var5, w_var6, w_var7, w_var8, w_var9, w_var10, w_var11, w_var12, w_var13, w_var14, w_var15, w_var16, w_var17, w_var18, w_var19, w_var20, w_dictT, w_dictK, w_callK, wpR_ok, wpR_sized, v_nm, v_addI, v_addS, v_addT, v_addL, v_sub, v_neg, w_mul, w_div, w_mod, w_pow, v_ordI, v_eqI, v_neI, v_eqS, v_neS, v_lenS, v_lenL, v_lenF, v_lenT, v_truB, v_seqS, v_seqT, v_seqL, v_seqF, v_listT, v_listL, v_tupleL, v_tupleT, v_tupD, v_lstD, v_lstR, v_slT, v_slL, v_slF, w_slS, defD_rt, defD_nx, defD_ex, defD_bk, defD_ct, AV.bl.injEq, AV.int.injEq, Option.some.injEq, exists_eq_left', tyS, if_true, if_false, Bool.false_eq_true, true_and, and_true]
      exact ⟨h, by omega, hM⟩
  rintro _ M ⟨h', hh', rfl, hM⟩
  -- it is laid
  have hNm : NmOk (1 + maxD0 0 (fl.map (·.1)), b) := by
    have hc : maxD0 0 (fl.map (·.1)) ≤ w.length ∧ 0 ≤ maxD0 0 (fl.map (·.1)) := by
      rcases maxD0_in (fl.map (·.1)) with z | z
      · omega
      · obtain ⟨x, hx, e⟩ := List.mem_map.mp z
        have := cnt_le hw x (hfw x hx)
        have := (hw.names x (hfw x hx)).lo
        omega
    exact ⟨by show 1 ≤ 1 + _; omega, by show 1 + _ ≤ (100 : Int); omega, hws b hb⟩
  have hRec : ∀ hand, Tx AnyC 20 hand → RecOk w ⟨(1 + maxD0 0 (fl.map (·.1)), b), hand, fl.filter fun x => decide (∀ y ∈ fl, x ∉ knowsW w y), .tup (.str s :: dr), fl⟩ := fun hand hh => ⟨hfw, hfn, hfso, hfc, rfl, rfl, fun t ht e => by
    have hlb := hla b
    cases e2 : lookL l b with
    | none =>
      rw [e2] at hlb
      exact absurd e (hlb t ht)
    | some n =>
      rw [e2] at hlb
      refine (hfl t.nm).mpr ⟨n, hgb n e2, ?_⟩
      rcases hlb.2 t ht e with z | z
      · exact .inr z
      · exact .inl z, hNm, hh, hd⟩
  refine wp_seq (fun G M => ∃ hand, Tx AnyC 20 hand ∧ G = stE ws (some (.str b)) (some (.lst ((sortN (namesW w)).map nameA))) (some (.ref 6)) (some (.ref 7)) o7 o8 (some (.lst (fl.map nameA))) (some (.ref 8)) (some (.tup ((fl.filter fun x => decide (∀ y ∈ fl, x ∉ knowsW w y)).map nameA))) (some (nameA (1 + maxD0 0 (fl.map (·.1)), b))) (some (.tup (.str s :: dr))) ∧
      Fs ([.dT (chK (w ++ [⟨(1 + maxD0 0 (fl.map (·.1)), b), hand, fl.filter fun x => decide (∀ y ∈ fl, x ∉ knowsW w y), .tup (.str s :: dr), fl⟩])), .dT (knK w), .dK (laK l), .lst (h'.map nameA), wdA] ++ [.lst (g.map nameA), .dT (trueK wa), .dT (trueK be)]) [] M) ?_ ?_
  · unfold stE
    try simp -implicitDefEqProofs only [List.map_cons, List.map_nil, List.cons_append, List.nil_append, List.replicate, List.set_cons_succ, List.set_cons_zero, wipeG, wpS_then, wpS_set, wpS_if, wpS_mret, wpS_retN, wpS_mnext, wpS_mbrk, wpS_mcnt, wpS_exp, wpS_asg, wpS_for, w_c, w_bin, w_un, w_ifE, w_andV, w_orV, w_notV, w_call, w_chain, w_meth, w_meth0, w_sl, w_noPart, w_part, w_nil, w_cons, w_bl, w_tru, w_and, w_or, w_not, w_lcV, w_lcR, w_lc, w_seq, w_rng1, w_rng2, w_var0, w_var1, w_var2, w_var3, w_var4, w_var5, w_var6, w_var7, w_var8, w_var9, w_var10, w_var11, w_var12, w_var13, w_var14, w_var15, w_var16, w_var17, w_var18, w_var19, w_var20, w_dictT, w_dictK, w_callK, wpR_ok, wpR_sized, v_nm, v_addI, v_addS, v_addT, v_addL, v_sub, v_neg, w_mul, w_div, w_mod, w_pow, v_ordI, v_eqI, v_neI, v_eqS, v_neS, v_lenS, v_lenL, v_lenF, v_lenT, v_truB, v_seqS, v_seqT, v_seqL, v_seqF, v_listT, v_listL, v_tupleL, v_tupleT, v_tupD, v_lstD, v_lstR, v_slT, v_slL, v_slF, w_slS, defD_rt, defD_nx, defD_ex, defD_bk, defD_ct, AV.bl.injEq, AV.int.injEq, Option.some.injEq, exists_eq_left', tyS, if_true, if_false, Bool.false_eq_true, true_and, and_true]
    refine d_draw h0 hM (by simp; omega) (by simp; omega) fun n M1 n0 n1 h1 => ?_
    refine w_one n0 (by simpa using n1) fun a ha => ?_
    obtain ⟨hand, hhand, rfl⟩ := List.mem_map.mp ha
    try simp -implicitDefEqProofs only [List.map_cons, List.map_nil, List.cons_append, List.nil_append, List.replicate, List.set_cons_succ, List.set_cons_zero, wipeG, wpS_then, wpS_set, wpS_if, wpS_mret, wpS_retN, wpS_mnext, wpS_mbrk, wpS_mcnt, wpS_exp, wpS_asg, wpS_for, w_c, w_bin, w_un, w_ifE, w_andV, w_orV, w_notV, w_call, w_chain, w_meth, w_meth0, w_sl, w_noPart, w_part, w_nil, w_cons, w_bl, w_tru, w_and, w_or, w_not, w_lcV, w_lcR, w_lc, w_seq, w_rng1, w_rng2, w_var0, w_var1, w_var2, w_var3, w_var4, w_var5, w_var6, w_var7, w_var8, w_var9, w_var10, w_var11, w_var12, w_var13, w_var14, w_var15, w_var16, w_var17, w_var18, w_var19, w_var20, w_dictT, w_dictK, w_callK, wpR_ok, wpR_sized, v_nm, v_addI, v_addS, v_addT, v_addL, v_sub, v_neg, w_mul, w_div, w_mod, w_pow, v_ordI, v_eqI, v_neI, v_eqS, v_neS, v_lenS, v_lenL, v_lenF, v_lenT, v_truB, v_seqS, v_seqT, v_seqL, v_seqF, v_listT, v_listL, v_tupleL, v_tupleT, v_tupD, v_lstD, v_lstR, v_slT, v_slL, v_slF, w_slS, defD_rt, defD_nx, defD_ex, defD_bk, defD_ct, AV.bl.injEq, AV.int.injEq, Option.some.injEq, exists_eq_left', tyS, if_true, if_false, Bool.false_eq_true, true_and, and_true]
    refine ⟨by simp, ?_⟩
    have hr := hRec hand (hws hand hhand)
    refine f_putT (i := 0) (kvs := chK w) h1 rfl (by simp [chK, byN]; omega) (wpR_eq (by try simp -implicitDefEqProofs only [List.map_cons, List.map_nil, List.cons_append, List.nil_append, List.replicate, List.set_cons_succ, List.set_cons_zero, wipeG, wpS_then, wpS_set, wpS_if, wpS_mret, wpS_retN, wpS_mnext, wpS_mbrk, wpS_mcnt, wpS_exp, wpS_asg, wpS_for, w_c, w_bin, w_un, w_ifE, w_andV, w_orV, w_notV, w_call, w_chain, w_meth, w_meth0, w_sl, w_noPart, w_part, w_nil, w_cons, w_bl, w_tru, w_and, w_or, w_not, w_lcV, w_lcR, w_lc, w_seq, w_rng1, w_rng2, w_var0, w_var1, w_var2, w_var3, w_var4, w_var5, w_var6, w_var7, w_var8, w_var9, w_var10, w_var11, w_var12, w_var13, w_var14, w_var15, w_var16, w_var17, w_var18, w_var19, w_var20, w_dictT, w_dictK, w_callK, wpR_ok, wpR_sized, v_nm, v_addI, v_addS, v_addT, v_addL, v_sub, v_neg, w_mul, w_div, w_mod, w_pow, v_ordI, v_eqI, v_neI, v_eqS, v_neS, v_lenS, v_lenL, v_lenF, v_lenT, v_truB, v_seqS, v_seqT, v_seqL, v_seqF, v_listT, v_listL, v_tupleL, v_tupleT, v_tupD, v_lstD, v_lstR, v_slT, v_slL, v_slF, w_slS, defD_rt, defD_nx, defD_ex, defD_bk, defD_ct, AV.bl.injEq, AV.int.injEq, Option.some.injEq, exists_eq_left', tyS, if_true, if_false, Bool.false_eq_true, true_and, and_true, w_ch h1])) rfl (keyT_name _) fun M2 h2 => ?_
    have es := setK_new (f := Rc.nm) (g := recA) (w := w) (r := ⟨(1 + maxD0 0 (fl.map (·.1)), b), hand, fl.filter fun x => decide (∀ y ∈ fl, x ∉ knowsW w y), .tup (.str s :: dr), fl⟩) hr.new
    exact ⟨hand, hws hand hhand, rfl, Eq.mp (congrArg (fun z => Fs ([.dT z, .dT (knK w), .dK (laK l), .lst (h'.map nameA), wdA] ++ [.lst (g.map nameA), .dT (trueK wa), .dT (trueK be)]) [] M2) es) h2⟩
  rintro _ M ⟨hand, hhand, rfl, hM⟩
  have hr := hRec hand hhand
  generalize hR : Rc.mk (1 + maxD0 0 (fl.map (·.1)), b) hand (fl.filter fun x => decide (∀ y ∈ fl, x ∉ knowsW w y)) (.tup (.str s :: dr)) fl = R at hr hM
  have eR : R.nm = (1 + maxD0 0 (fl.map (·.1)), b) := by rw [← hR]
  have eF : R.floor = fl := by rw [← hR]
  rw [← eR, ← eF]
  have hk : R.nm ∉ namesW w := hr.new
  refine wp_seq (fun G M => G = stE ws (some (.str b)) (some (.lst ((sortN (namesW w)).map nameA))) (some (.ref 6)) (some (.ref 7)) o7 o8 (some (.lst (R.floor.map nameA))) (some (.ref 8)) (some (.tup ((R.floor.filter fun x => decide (∀ y ∈ R.floor, x ∉ knowsW w y)).map nameA))) (some (nameA R.nm)) (some (.tup (.str s :: dr))) ∧
      Fs ([.dT (chK (w ++ [R])), .dT (knK (w ++ [R])), .dK (laK l), .lst (h'.map nameA), wdA] ++ [.lst (g.map nameA), .dT (trueK wa), .dT (trueK be)]) [] M) ?_ ?_
  · unfold stE
    have e5 : ∀ M, gIx (.ref 5) (.str "knows") M = gIx (.ref 5) (.str "knows") M := fun _ => rfl
    try simp -implicitDefEqProofs only [List.map_cons, List.map_nil, List.cons_append, List.nil_append, List.replicate, List.set_cons_succ, List.set_cons_zero, wipeG, wpS_then, wpS_set, wpS_if, wpS_mret, wpS_retN, wpS_mnext, wpS_mbrk, wpS_mcnt, wpS_exp, wpS_asg, wpS_for, w_c, w_bin, w_un, w_ifE, w_andV, w_orV, w_notV, w_call, w_chain, w_meth, w_meth0, w_sl, w_noPart, w_part, w_nil, w_cons, w_bl, w_tru, w_and, w_or, w_not, w_lcV, w_lcR, w_lc, w_seq, w_rng1, w_rng2, w_var0, w_var1, w_var2, w_var3, w_var4, w_var5, w_var6, w_var7, w_var8, w_var9, w_var10, w_var11, w_var12, w_var13, w_var14, w_var15, w_var16, w_var17, w_var18, w_var19, w_var20, w_dictT, w_dictK, w_callK, wpR_ok, wpR_sized, v_nm, v_addI, v_addS, v_addT, v_addL, v_sub, v_neg, w_mul, w_div, w_mod, w_pow, v_ordI, v_eqI, v_neI, v_eqS, v_neS, v_lenS, v_lenL, v_lenF, v_lenT, v_truB, v_seqS, v_seqT, v_seqL, v_seqF, v_listT, v_listL, v_tupleL, v_tupleT, v_tupD, v_lstD, v_lstR, v_slT, v_slL, v_slF, w_slS, defD_rt, defD_nx, defD_ex, defD_bk, defD_ct, AV.bl.injEq, AV.int.injEq, Option.some.injEq, exists_eq_left', tyS, if_true, if_false, Bool.false_eq_true, true_and, and_true]
    refine f_putT (i := 1) (kvs := knK w) hM rfl (by simp [knK, byN]; omega) (wpR_eq (by
      have := f_ixK (i := 4) hM rfl (b := .str "knows") rfl wd_kn
      try simp -implicitDefEqProofs only [List.map_cons, List.map_nil, List.cons_append, List.nil_append, List.replicate, List.set_cons_succ, List.set_cons_zero, wipeG, wpS_then, wpS_set, wpS_if, wpS_mret, wpS_retN, wpS_mnext, wpS_mbrk, wpS_mcnt, wpS_exp, wpS_asg, wpS_for, w_c, w_bin, w_un, w_ifE, w_andV, w_orV, w_notV, w_call, w_chain, w_meth, w_meth0, w_sl, w_noPart, w_part, w_nil, w_cons, w_bl, w_tru, w_and, w_or, w_not, w_lcV, w_lcR, w_lc, w_seq, w_rng1, w_rng2, w_var0, w_var1, w_var2, w_var3, w_var4, w_var5, w_var6, w_var7, w_var8, w_var9, w_var10, w_var11, w_var12, w_var13, w_var14, w_var15, w_var16, w_var17, w_var18, w_var19, w_var20, w_dictT, w_dictK, w_callK, wpR_ok, wpR_sized, v_nm, v_addI, v_addS, v_addT, v_addL, v_sub, v_neg, w_mul, w_div, w_mod, w_pow, v_ordI, v_eqI, v_neI, v_eqS, v_neS, v_lenS, v_lenL, v_lenF, v_lenT, v_truB, v_seqS, v_seqT, v_seqL, v_seqF, v_listT, v_listL, v_tupleL, v_tupleT, v_tupD, v_lstD, v_lstR, v_slT, v_slL, v_slF, w_slS, defD_rt, defD_nx, defD_ex, defD_bk, defD_ct, AV.bl.injEq, AV.int.injEq, Option.some.injEq, exists_eq_left', tyS, if_true, if_false, Bool.false_eq_true, true_and, and_true, this])) rfl (keyT_name _) fun M2 h2 => ?_
    have es := setK_new (f := Rc.nm) (g := flA) (w := w) (r := R) hk
    exact ⟨rfl, Eq.mp (congrArg (fun z => Fs ([.dT (chK (w ++ [R])), .dT z, .dK (laK l), .lst (h'.map nameA), wdA] ++ [.lst (g.map nameA), .dT (trueK wa), .dT (trueK be)]) [] M2) es) h2⟩
  rintro _ M ⟨rfl, hM⟩
  unfold stE
  try simp -implicitDefEqProofs only [List.map_cons, List.map_nil, List.cons_append, List.nil_append, List.replicate, List.set_cons_succ, List.set_cons_zero, wipeG, wpS_then, wpS_set, wpS_if, wpS_mret, wpS_retN, wpS_mnext, wpS_mbrk, wpS_mcnt, wpS_exp, wpS_asg, wpS_for, w_c, w_bin, w_un, w_ifE, w_andV, w_orV, w_notV, w_call, w_chain, w_meth, w_meth0, w_sl, w_noPart, w_part, w_nil, w_cons, w_bl, w_tru, w_and, w_or, w_not, w_lcV, w_lcR, w_lc, w_seq, w_rng1, w_rng2, w_var0, w_var1, w_var2, w_var3, w_var4, w_var5, w_var6, w_var7, w_var8, w_var9, w_var10, w_var11, w_var12, w_var13, w_var14, w_var15, w_var16, w_var17, w_var18, w_var19, w_var20, w_dictT, w_dictK, w_callK, wpR_ok, wpR_sized, v_nm, v_addI, v_addS, v_addT, v_addL, v_sub, v_neg, w_mul, w_div, w_mod, w_pow, v_ordI, v_eqI, v_neI, v_eqS, v_neS, v_lenS, v_lenL, v_lenF, v_lenT, v_truB, v_seqS, v_seqT, v_seqL, v_seqF, v_listT, v_listL, v_tupleL, v_tupleT, v_tupD, v_lstD, v_lstR, v_slT, v_slL, v_slF, w_slS, defD_rt, defD_nx, defD_ex, defD_bk, defD_ct, AV.bl.injEq, AV.int.injEq, Option.some.injEq, exists_eq_left', tyS, if_true, if_false, Bool.false_eq_true, true_and, and_true]
  refine f_putK (i := 2) (kvs := laK l) hM rfl ?_ (wpR_eq (by
    have := f_ixK (i := 4) hM rfl (b := .str "last") rfl wd_la
    try simp -implicitDefEqProofs only [List.map_cons, List.map_nil, List.cons_append, List.nil_append, List.replicate, List.set_cons_succ, List.set_cons_zero, wipeG, wpS_then, wpS_set, wpS_if, wpS_mret, wpS_retN, wpS_mnext, wpS_mbrk, wpS_mcnt, wpS_exp, wpS_asg, wpS_for, w_c, w_bin, w_un, w_ifE, w_andV, w_orV, w_notV, w_call, w_chain, w_meth, w_meth0, w_sl, w_noPart, w_part, w_nil, w_cons, w_bl, w_tru, w_and, w_or, w_not, w_lcV, w_lcR, w_lc, w_seq, w_rng1, w_rng2, w_var0, w_var1, w_var2, w_var3, w_var4, w_var5, w_var6, w_var7, w_var8, w_var9, w_var10, w_var11, w_var12, w_var13, w_var14, w_var15, w_var16, w_var17, w_var18, w_var19, w_var20, w_dictT, w_dictK, w_callK, wpR_ok, wpR_sized, v_nm, v_addI, v_addS, v_addT, v_addL, v_sub, v_neg, w_mul, w_div, w_mod, w_pow, v_ordI, v_eqI, v_neI, v_eqS, v_neS, v_lenS, v_lenL, v_lenF, v_lenT, v_truB, v_seqS, v_seqT, v_seqL, v_seqF, v_listT, v_listL, v_tupleL, v_tupleT, v_tupD, v_lstD, v_lstR, v_slT, v_slL, v_slF, w_slS, defD_rt, defD_nx, defD_ex, defD_bk, defD_ct, AV.bl.injEq, AV.int.injEq, Option.some.injEq, exists_eq_left', tyS, if_true, if_false, Bool.false_eq_true, true_and, and_true, this])) rfl rfl fun M2 h2 => ?_
  · rw [laK, List.length_map]
    omega
  rw [setK_la] at h2
  have eb : R.nm.2 = b := by rw [eR]
  refine hDn _ _ (hD R (setL' l b R.nm) h' M2 [.lst (g.map nameA), .dT (trueK wa), .dT (trueK be)] hr (by rw [eb]; exact hb) (by rw [← eb]; exact hla.snoc hr) (by omega) (len_setL l b R.nm) h2)
end
end Px

/-! Px13: the world, its ledgers. -/
namespace Px
open PySem hiding Env plain
open L2 Mx StrLaws PySem.W
/-- a world, with all that is known of it -/
structure World (ws : List Str) (w : List Rc) (l : List (Str × Nm)) (h : List Nm) : Prop where
  ok : WOk w
  la : LaOk w l
  wl : w.length ≤ 20
  hl : h.length ≤ w.length
  ll : l.length ≤ w.length
  br : ∀ r ∈ w, r.nm.2 ∈ ws
section
variable {ws : List Str} {w : List Rc} {l : List (Str × Nm)} {h : List Nm} {tmp : List AV} {M : AH} {P : AV → AH → Prop} {E : Str → List (Str × AV) → AH → Prop}
theorem wd_merge : mergeA [(.inr ("changes" : Str), .ref 1), (.inr ("knows" : Str), .ref 2), (.inr ("last" : Str), .ref 3), (.inr ("hangs" : Str), .ref 4)] = wdL := by kernel_rfl
theorem d_world {n : Int} (hM : Fs [] [] M) (w0 : 0 < ws.length) (w6 : ws.length ≤ 6) (hws : ∀ x ∈ ws, Tx AnyC 20 x) (n0 : 0 ≤ n) (n1 : n ≤ 17)
    (q : ∀ w l h M', World ws w l h → w.length = n.toNat → Fs (wrest w l h) [] M' → P (.ref 5) M') : wpR (m_world [.ref 0, .lst (ws.map .str), .int n] M) P E := by
  have hb : wpR (mDef 3 2 world_b [.ref 0, .lst (ws.map .str), .int n] M) (fun a M' => a = .ref 5 ∧ ∃ w l h, World ws w l h ∧ w.length = n.toNat ∧ Fs (wrest w l h) [] M') (fun _ _ _ => False) := by
    refine wp_def rfl ?_
    unfold world_b
    refine wp_seq (fun G M => G = [some (.ref 0), some (.lst (ws.map .str)), some (.int n), some (.ref 5), none] ∧ Fs (wrest [] [] []) [] M) ?_ ?_
    · obtain ⟨cs, a, l, k, rfl⟩ := hM
      simp -implicitDefEqProofs only [List.map_cons, List.map_nil, List.cons_append, List.nil_append, List.replicate, wpS_set, w_disp, w_kCons, w_kNil, w_dictT, w_dictK, w_nil, w_call, v_lstR, wpR_sized, wpR_ok, List.set_cons_succ, List.set_cons_zero]
      refine ⟨by simp, by simp, ?_, ?_⟩
      · rfl
      · refine ⟨cs, a, l, k, ?_⟩
        have e := wd_merge
        show AH.mk (fd cs a l k :: ([] ++ [AV.dT []] ++ [AV.dT []] ++ [AV.dK []] ++ [AV.lst []] ++ [.dK (mergeA [(.inr ("changes" : Str), .ref 1), (.inr ("knows" : Str), .ref 2), (.inr ("last" : Str), .ref 3), (.inr ("hangs" : Str), .ref 4)])])) [] = _
        rw [e]
        rfl
    rintro _ M ⟨rfl, hM⟩
    refine wp_seq (fun G M => G.take 4 = [some (.ref 0), some (.lst (ws.map .str)), some (.int n), some (.ref 5)] ∧ ∃ w l h, World ws w l h ∧ w.length = n.toNat ∧ Fs (wrest w l h) [] M) ?_ ?_
    · rw [wpS_for]
      try simp -implicitDefEqProofs only [List.map_cons, List.map_nil, List.cons_append, List.nil_append, List.replicate, List.set_cons_succ, List.set_cons_zero, wipeG, wpS_then, wpS_set, wpS_if, wpS_mret, wpS_retN, wpS_mnext, wpS_mbrk, wpS_mcnt, wpS_exp, wpS_asg, wpS_for, w_c, w_bin, w_un, w_ifE, w_andV, w_orV, w_notV, w_call, w_chain, w_meth, w_meth0, w_sl, w_noPart, w_part, w_nil, w_cons, w_bl, w_tru, w_and, w_or, w_not, w_lcV, w_lcR, w_lc, w_seq, w_rng1, w_rng2, w_var0, w_var1, w_var2, w_var3, w_var4, w_var5, w_var6, w_var7, w_var8, w_var9, w_var10, w_var11, w_var12, w_var13, w_var14, w_var15, w_var16, w_var17, w_var18, w_var19, w_var20, w_dictT, w_dictK, w_callK, wpR_ok, wpR_sized, v_nm, v_addI, v_addS, v_addT, v_addL, v_sub, v_neg, w_mul, w_div, w_mod, w_pow, v_ordI, v_eqI, v_neI, v_eqS, v_neS, v_lenS, v_lenL, v_lenF, v_lenT, v_truB, v_seqS, v_seqT, v_seqL, v_seqF, v_listT, v_listL, v_tupleL, v_tupleT, v_tupD, v_lstD, v_lstR, v_slT, v_slL, v_slF, w_slS, defD_rt, defD_nx, defD_ex, defD_bk, defD_ct, AV.bl.injEq, AV.int.injEq, Option.some.injEq, exists_eq_left', tyS, if_true, if_false, Bool.false_eq_true, true_and, and_true]
      rw [w_gRng1 (by unfold rngOk; simp; omega)]
      refine wp_loop (fun k G M => (∃ g4, G = [some (.ref 0), some (.lst (ws.map .str)), some (.int n), some (.ref 5), g4]) ∧ ∃ w l h, World ws w l h ∧ w.length = k ∧ Fs (wrest w l h) [] M) _ 0 _ _ ⟨⟨_, rfl⟩, [], [], [], ⟨.nil, fun b => by simp [lookL], by simp, by simp, by simp, by simp⟩, rfl, hM⟩ ?_ ?_
      · rintro j a G M hj ⟨⟨g4, rfl⟩, w, l, h, hw, hl, hF⟩
        have hj2 : j < n.toNat := by
          have := (List.getElem?_eq_some_iff.mp hj).1
          rwa [rng_len] at this
        try simp -implicitDefEqProofs only [List.map_cons, List.map_nil, List.cons_append, List.nil_append, List.replicate, List.set_cons_succ, List.set_cons_zero, wipeG, wpS_then, wpS_set, wpS_if, wpS_mret, wpS_retN, wpS_mnext, wpS_mbrk, wpS_mcnt, wpS_exp, wpS_asg, wpS_for, w_c, w_bin, w_un, w_ifE, w_andV, w_orV, w_notV, w_call, w_chain, w_meth, w_meth0, w_sl, w_noPart, w_part, w_nil, w_cons, w_bl, w_tru, w_and, w_or, w_not, w_lcV, w_lcR, w_lc, w_seq, w_rng1, w_rng2, w_var0, w_var1, w_var2, w_var3, w_var4, w_var5, w_var6, w_var7, w_var8, w_var9, w_var10, w_var11, w_var12, w_var13, w_var14, w_var15, w_var16, w_var17, w_var18, w_var19, w_var20, w_dictT, w_dictK, w_callK, wpR_ok, wpR_sized, v_nm, v_addI, v_addS, v_addT, v_addL, v_sub, v_neg, w_mul, w_div, w_mod, w_pow, v_ordI, v_eqI, v_neI, v_eqS, v_neS, v_lenS, v_lenL, v_lenF, v_lenT, v_truB, v_seqS, v_seqT, v_seqL, v_seqF, v_listT, v_listL, v_tupleL, v_tupleT, v_tupD, v_lstD, v_lstR, v_slT, v_slL, v_slF, w_slS, defD_rt, defD_nx, defD_ex, defD_bk, defD_ct, AV.bl.injEq, AV.int.injEq, Option.some.injEq, exists_eq_left', tyS, if_true, if_false, Bool.false_eq_true, true_and, and_true]
        refine d_step hF hw.ok hw.la hw.wl (by have := hw.hl; omega) (by have := hw.ll; omega) w0 w6 hws fun r l' h' M' hr hb hl' hh' hll' h2 => ?_
        refine ⟨⟨_, rfl⟩, w ++ [r], l', h', ⟨.snoc hw.ok hr, hl', by simp; omega, by have := hw.hl; simp; omega, by have := hw.ll; simp; omega, fun s hs => ?_⟩, by simp; omega, h2⟩
        rcases List.mem_append.mp hs with z | z
        · exact hw.br s z
        · rw [List.mem_singleton.mp z]
          exact hb
      · rintro G M ⟨⟨g4, rfl⟩, w, l, h, hw, hl, hF⟩
        rw [rng_len, Nat.zero_add] at hl
        exact ⟨rfl, w, l, h, hw, hl, hF⟩
    rintro G M ⟨hG, hW⟩
    obtain ⟨g0, g1, g2, g3, r, rfl⟩ : ∃ g0 g1 g2 g3 r, G = g0 :: g1 :: g2 :: g3 :: r := by
      match G, hG with
      | a :: b :: c :: d :: r, _ => exact ⟨a, b, c, d, r, rfl⟩
    simp only [List.take_succ_cons, List.take_zero, List.cons.injEq, and_true] at hG
    obtain ⟨rfl, rfl, rfl, rfl⟩ := hG
    try simp -implicitDefEqProofs only [List.map_cons, List.map_nil, List.cons_append, List.nil_append, List.replicate, List.set_cons_succ, List.set_cons_zero, wipeG, wpS_then, wpS_set, wpS_if, wpS_mret, wpS_retN, wpS_mnext, wpS_mbrk, wpS_mcnt, wpS_exp, wpS_asg, wpS_for, w_c, w_bin, w_un, w_ifE, w_andV, w_orV, w_notV, w_call, w_chain, w_meth, w_meth0, w_sl, w_noPart, w_part, w_nil, w_cons, w_bl, w_tru, w_and, w_or, w_not, w_lcV, w_lcR, w_lc, w_seq, w_rng1, w_rng2, w_var0, w_var1, w_var2, w_var3, w_var4, w_var5, w_var6, w_var7, w_var8, w_var9, w_var10, w_var11, w_var12, w_var13, w_var14, w_var15, w_var16, w_var17, w_var18, w_var19, w_var20, w_dictT, w_dictK, w_callK, wpR_ok, wpR_sized, v_nm, v_addI, v_addS, v_addT, v_addL, v_sub, v_neg, w_mul, w_div, w_mod, w_pow, v_ordI, v_eqI, v_neI, v_eqS, v_neS, v_lenS, v_lenL, v_lenF, v_lenT, v_truB, v_seqS, v_seqT, v_seqL, v_seqF, v_listT, v_listL, v_tupleL, v_tupleT, v_tupD, v_lstD, v_lstR, v_slT, v_slL, v_slF, w_slS, defD_rt, defD_nx, defD_ex, defD_bk, defD_ct, AV.bl.injEq, AV.int.injEq, Option.some.injEq, exists_eq_left', tyS, if_true, if_false, Bool.false_eq_true, true_and, and_true]
    exact hW
  unfold m_world gc
  cases e : mDef 3 2 world_b [.ref 0, .lst (ws.map .str), .int n] M with
  | ok a M' =>
    rw [e] at hb
    obtain ⟨rfl, w, l, h, hw, hl, hF⟩ := hb
    have hl1 : M.objs.length = 1 := hM.len
    have hc : cl 1 (fin 1 M' (.ref 5)) = false := by
      obtain ⟨cs, a, l', k, rfl⟩ := hF
      rfl
    rw [hl1]
    simp only [hc, Bool.false_eq_true, and_false, if_false, wpR_ok]
    exact q w l h M' hw hl hF
  | exc c fs M => rw [e] at hb; exact hb.elim
  | stuck => rw [e] at hb; exact hb.elim
/-- the record of a name -/
def recOf (w : List Rc) (n : Nm) : Rc := (w.find? fun r => decide (r.nm = n)).getD ⟨n, "", [], .non, []⟩
theorem recOf_nm (w : List Rc) (n : Nm) : (recOf w n).nm = n := by
  unfold recOf
  cases e : w.find? fun r => decide (r.nm = n) with
  | none => rfl
  | some r => exact (by simpa using List.find?_some e)
theorem recOf_in {n : Nm} (hn : n ∈ namesW w) : (w.find? fun r => decide (r.nm = n)) = some (recOf w n) ∧ recOf w n ∈ w ∧ (recOf w n).floor = knowsW w n := by
  obtain ⟨r, e1, hr, e2, e3⟩ := knows_in hn
  have : recOf w n = r := by simp [recOf, e1]
  rw [this]
  exact ⟨e1, hr, e3.symm⟩
/-- a ledger of some names -/
def ledA (w : List Rc) (L : List Nm) : AV := .tup (L.map fun n => recA (recOf w n))
noncomputable def allN (w : List Rc) : List Nm := sortN (namesW w)
theorem mem_allN {n : Nm} : n ∈ allN w ↔ n ∈ namesW w := mem_sortN
theorem len_allN : (allN w).length = w.length := by
  unfold allN
  rw [len_sortN, List.length_map]
theorem d_ledger {L : List Nm} (hM : Fs (wrest w l h ++ tmp) [] M) (hl : w.length ≤ 20) : m_ledger [.ref 5, .lst (L.map nameA)] M = .ok (ledA w ((allN w).filter fun n => decide (n ∈ L))) M := by
  refine pure_eq rfl ?_
  unfold ledger_b
  try simp -implicitDefEqProofs only [List.map_cons, List.map_nil, List.cons_append, List.nil_append, List.replicate, List.set_cons_succ, List.set_cons_zero, wipeG, wpS_then, wpS_set, wpS_if, wpS_mret, wpS_retN, wpS_mnext, wpS_mbrk, wpS_mcnt, wpS_exp, wpS_asg, wpS_for, w_c, w_bin, w_un, w_ifE, w_andV, w_orV, w_notV, w_call, w_chain, w_meth, w_meth0, w_sl, w_noPart, w_part, w_nil, w_cons, w_bl, w_tru, w_and, w_or, w_not, w_lcV, w_lcR, w_lc, w_seq, w_rng1, w_rng2, w_var0, w_var1, w_var2, w_var3, w_var4, w_var5, w_var6, w_var7, w_var8, w_var9, w_var10, w_var11, w_var12, w_var13, w_var14, w_var15, w_var16, w_var17, w_var18, w_var19, w_var20, w_dictT, w_dictK, w_callK, wpR_ok, wpR_sized, v_nm, v_addI, v_addS, v_addT, v_addL, v_sub, v_neg, w_mul, w_div, w_mod, w_pow, v_ordI, v_eqI, v_neI, v_eqS, v_neS, v_lenS, v_lenL, v_lenF, v_lenT, v_truB, v_seqS, v_seqT, v_seqL, v_seqF, v_listT, v_listL, v_tupleL, v_tupleT, v_tupD, v_lstD, v_lstR, v_slT, v_slL, v_slF, w_slS, defD_rt, defD_nx, defD_ex, defD_bk, defD_ct, AV.bl.injEq, AV.int.injEq, Option.some.injEq, exists_eq_left', tyS, if_true, if_false, Bool.false_eq_true, true_and, and_true, w_ch hM, w_sortCh hM]
  have hal := len_allN (w := w)
  have hlc := lcl_map (l0 := (sortN (namesW w)).map nameA) (t := gNm 2) (c := mBl (mBin (gIn false) (mVar 2) (mVar 1))) (el := mBin gIx (mBin gIx (mVar 0) (mC (.str "changes"))) (mVar 2)) (G := [some (.ref 5), some (.lst (L.map nameA)), none]) (M := M) nameA (fun n => decide (n ∈ L)) (fun n => recA (recOf w n)) (allN w) [] (by simp; omega) fun x hx => ⟨_, rfl, wpR_eq (by
    try simp -implicitDefEqProofs only [List.map_cons, List.map_nil, List.cons_append, List.nil_append, List.replicate, List.set_cons_succ, List.set_cons_zero, wipeG, wpS_then, wpS_set, wpS_if, wpS_mret, wpS_retN, wpS_mnext, wpS_mbrk, wpS_mcnt, wpS_exp, wpS_asg, wpS_for, w_c, w_bin, w_un, w_ifE, w_andV, w_orV, w_notV, w_call, w_chain, w_meth, w_meth0, w_sl, w_noPart, w_part, w_nil, w_cons, w_bl, w_tru, w_and, w_or, w_not, w_lcV, w_lcR, w_lc, w_seq, w_rng1, w_rng2, w_var0, w_var1, w_var2, w_var3, w_var4, w_var5, w_var6, w_var7, w_var8, w_var9, w_var10, w_var11, w_var12, w_var13, w_var14, w_var15, w_var16, w_var17, w_var18, w_var19, w_var20, w_dictT, w_dictK, w_callK, wpR_ok, wpR_sized, v_nm, v_addI, v_addS, v_addT, v_addL, v_sub, v_neg, w_mul, w_div, w_mod, w_pow, v_ordI, v_eqI, v_neI, v_eqS, v_neS, v_lenS, v_lenL, v_lenF, v_lenT, v_truB, v_seqS, v_seqT, v_seqL, v_seqF, v_listT, v_listL, v_tupleL, v_tupleT, v_tupD, v_lstD, v_lstR, v_slT, v_slL, v_slF, w_slS, defD_rt, defD_nx, defD_ex, defD_bk, defD_ct, AV.bl.injEq, AV.int.injEq, Option.some.injEq, exists_eq_left', tyS, if_true, if_false, Bool.false_eq_true, true_and, and_true, v_inN]), fun _ => wpR_eq (by
    have := w_chAt hM (recOf_in (mem_allN.mp hx)).1
    try simp -implicitDefEqProofs only [List.map_cons, List.map_nil, List.cons_append, List.nil_append, List.replicate, List.set_cons_succ, List.set_cons_zero, wipeG, wpS_then, wpS_set, wpS_if, wpS_mret, wpS_retN, wpS_mnext, wpS_mbrk, wpS_mcnt, wpS_exp, wpS_asg, wpS_for, w_c, w_bin, w_un, w_ifE, w_andV, w_orV, w_notV, w_call, w_chain, w_meth, w_meth0, w_sl, w_noPart, w_part, w_nil, w_cons, w_bl, w_tru, w_and, w_or, w_not, w_lcV, w_lcR, w_lc, w_seq, w_rng1, w_rng2, w_var0, w_var1, w_var2, w_var3, w_var4, w_var5, w_var6, w_var7, w_var8, w_var9, w_var10, w_var11, w_var12, w_var13, w_var14, w_var15, w_var16, w_var17, w_var18, w_var19, w_var20, w_dictT, w_dictK, w_callK, wpR_ok, wpR_sized, v_nm, v_addI, v_addS, v_addT, v_addL, v_sub, v_neg, w_mul, w_div, w_mod, w_pow, v_ordI, v_eqI, v_neI, v_eqS, v_neS, v_lenS, v_lenL, v_lenF, v_lenT, v_truB, v_seqS, v_seqT, v_seqL, v_seqF, v_listT, v_listL, v_tupleL, v_tupleT, v_tupD, v_lstD, v_lstR, v_slT, v_slL, v_slF, w_slS, defD_rt, defD_nx, defD_ex, defD_bk, defD_ct, AV.bl.injEq, AV.int.injEq, Option.some.injEq, exists_eq_left', tyS, if_true, if_false, Bool.false_eq_true, true_and, and_true, w_ch hM, this])⟩
  rw [List.nil_append] at hlc
  unfold allN at hlc
  rw [hlc]
  try simp -implicitDefEqProofs only [List.map_cons, List.map_nil, List.cons_append, List.nil_append, List.replicate, List.set_cons_succ, List.set_cons_zero, wipeG, wpS_then, wpS_set, wpS_if, wpS_mret, wpS_retN, wpS_mnext, wpS_mbrk, wpS_mcnt, wpS_exp, wpS_asg, wpS_for, w_c, w_bin, w_un, w_ifE, w_andV, w_orV, w_notV, w_call, w_chain, w_meth, w_meth0, w_sl, w_noPart, w_part, w_nil, w_cons, w_bl, w_tru, w_and, w_or, w_not, w_lcV, w_lcR, w_lc, w_seq, w_rng1, w_rng2, w_var0, w_var1, w_var2, w_var3, w_var4, w_var5, w_var6, w_var7, w_var8, w_var9, w_var10, w_var11, w_var12, w_var13, w_var14, w_var15, w_var16, w_var17, w_var18, w_var19, w_var20, w_dictT, w_dictK, w_callK, wpR_ok, wpR_sized, v_nm, v_addI, v_addS, v_addT, v_addL, v_sub, v_neg, w_mul, w_div, w_mod, w_pow, v_ordI, v_eqI, v_neI, v_eqS, v_neS, v_lenS, v_lenL, v_lenF, v_lenT, v_truB, v_seqS, v_seqT, v_seqL, v_seqF, v_listT, v_listL, v_tupleL, v_tupleT, v_tupD, v_lstD, v_lstR, v_slT, v_slL, v_slF, w_slS, defD_rt, defD_nx, defD_ex, defD_bk, defD_ct, AV.bl.injEq, AV.int.injEq, Option.some.injEq, exists_eq_left', tyS, if_true, if_false, Bool.false_eq_true, true_and, and_true]
  first | exact ⟨rfl, rfl⟩ | rfl
end
end Px

/-! Px14: more of the world: bases, parts that hold all that they know, how a ledger is shown. -/
namespace Px
open PySem hiding Env plain
open L2 Mx StrLaws PySem.W
section
variable {M : AH} {G : Env} {E : Str → List (Str × AV) → AH → Prop} {P : Env → AH → Prop}
@[simp] theorem w_gTp (n : Nat) (u : TMs) (as : List AV) : wpR (gTp n u (.tup as) G M) P E = (as.length = n ∧ wpR (u as G M) P E) := by
  show wpR (if as.length = n then u as G M else .stuck) P E = _
  by_cases h : as.length = n <;> simp [h]
@[simp] theorem w_gsCons (t : TMt) (u : TMs) (a : AV) (r : List AV) : wpR (gsCons t u (a :: r) G M) P E = wpR (t a G M) (fun G1 M1 => wpR (u r G1 M1) P E) E := by
  show wpR ((t a G M).bind fun G1 M1 => u r G1 M1) P E = _
  rw [wpR_bind]
@[simp] theorem w_gsNil : wpR (gsNil [] G M) P E = P G M := byrfl rfl
end
/-- a row's last one -/
theorem w_lastOf {xs : List AV} {M : AH} {Q : AV → AH → Prop} {E : Str → List (Str × AV) → AH → Prop} (h0 : 0 < xs.length) (q : ∀ a ∈ xs, Q a M) : wpR (gIx (.lst xs) (.int (-1)) M) Q E := by
  rw [w_ixL]
  have e : atI xs (-1) = xs[xs.length - 1]? := by
    unfold atI ixN
    have h1 : ¬ (0 : Int) ≤ -1 := by decide
    have h2 : -(xs.length : Int) ≤ -1 := by omega
    simp only [h1, h2, if_true, if_false, Option.bind_some]
    congr 1
    omega
  rw [e, List.getElem?_eq_getElem (by omega)]
  exact ⟨_, rfl, q _ (List.getElem_mem _)⟩
theorem f_addRL {rest : List AV} {fz : List Nat} {i : Nat} {xs ys : List AV} {M : AH} (hM : Fs rest fz M) (hx : rest[i]? = some (.lst xs)) : gAdd (.ref (i + 1)) (.lst ys) M = sized (xs.length + ys.length) (.ok (.lst (xs ++ ys)) M) := by
  have e : M.objs[i + 1]? = some (.lst xs) := by rw [hM.get, hx]
  simp [gAdd, lstX, e]
section
variable {w : List Rc}
theorem WOk.base (h : WOk w) : ∀ n ∈ namesW w, (recOf w n).base = (knowsW w n).filter fun x => decide (∀ y ∈ knowsW w n, x ∉ knowsW w y) := by
  have key : ∀ r ∈ w, r.base = r.floor.filter fun x => decide (∀ y ∈ r.floor, x ∉ knowsW w y) := by
    induction h with
    | nil => simp
    | @snoc w r hw hr ih =>
      intro s hs
      rcases List.mem_append.mp hs with z | z
      · have hsn : s.nm ∈ namesW w := List.mem_map.mpr ⟨s, z, rfl⟩
        rw [ih s z]
        have hfl : ∀ y ∈ s.floor, y ∈ namesW w := by
          intro y hy
          have hk : knowsW w s.nm = s.floor := by
            obtain ⟨t, e1, ht, e2, e3⟩ := knows_in hsn
            rw [e3]
            have nd := hw.nd
            have : t = s := by
              obtain ⟨i, hi, ei⟩ := List.mem_iff_getElem.mp ht
              obtain ⟨j, hj, ej⟩ := List.mem_iff_getElem.mp z
              have := (List.getElem_inj (xs := namesW w) (i := i) (j := j) (h₀ := by simpa using hi) (h₁ := by simpa using hj) nd).mp (by simp [ei, ej, e2])
              subst this
              rw [← ei, ← ej]
            rw [this]
          exact ((hw.trans s.nm hsn).1 y (by rw [hk]; exact hy)).1
        refine List.filter_congr fun x hx => ?_
        apply decide_eq_decide.mpr
        exact ⟨fun q y hy => by rw [knows_app (hfl y hy)]; exact q y hy, fun q y hy => by rw [← knows_app (r := r) (hfl y hy)]; exact q y hy⟩
      · rw [List.mem_singleton.mp z, hr.ba]
        refine List.filter_congr fun x hx => ?_
        apply decide_eq_decide.mpr
        exact ⟨fun q y hy => by rw [knows_app (hr.fl y hy)]; exact q y hy, fun q y hy => by rw [← knows_app (r := r) (hr.fl y hy)]; exact q y hy⟩
  intro n hn
  obtain ⟨e1, hr, e2⟩ := recOf_in hn
  rw [key _ hr, e2]
/-- a part that holds all that it knows -/
def Closed (w : List Rc) (L : List Nm) : Prop := ∀ x ∈ L, x ∈ namesW w ∧ ∀ y ∈ knowsW w x, y ∈ L
theorem base_knows (h : WOk w) {L : List Nm} (hc : Closed w L) (x : Nm) : (∃ c ∈ L, x ∈ (recOf w c).base) ↔ ∃ c ∈ L, x ∈ knowsW w c := by
  constructor
  · rintro ⟨c, hc1, hx⟩
    rw [h.base c (hc c hc1).1] at hx
    exact ⟨c, hc1, (List.mem_filter.mp hx).1⟩
  · rintro ⟨c, hc1, hx⟩
    have go : ∀ (k : Nat) (c : Nm), c.1.toNat ≤ k → c ∈ L → x ∈ knowsW w c → ∃ c ∈ L, x ∈ (recOf w c).base := by
      intro k
      induction k with
      | zero =>
        intro c hk hcL hx
        have := (h.names c (hc c hcL).1).lo
        omega
      | succ k ih =>
        intro c hk hcL hx
        by_cases hb : ∀ y ∈ knowsW w c, x ∉ knowsW w y
        · refine ⟨c, hcL, ?_⟩
          rw [h.base c (hc c hcL).1]
          exact List.mem_filter.mpr ⟨hx, decide_eq_true hb⟩
        · obtain ⟨y, hy, hxy⟩ : ∃ y, y ∈ knowsW w c ∧ x ∈ knowsW w y := Classical.byContradiction fun z => hb fun y hy hxy => z ⟨y, hy, hxy⟩
          have hlt := ((h.trans c (hc c hcL).1).1 y hy).2.1
          have := (h.names c (hc c hcL).1).lo
          exact ih y (by omega) ((hc c hcL).2 y hy) hxy
    exact go _ c (Nat.le_refl _) hc1 hx
/-! ### how it is shown -/
theorem sh_names {L : List Nm} (h : ∀ n ∈ L, NmOk n) (hl : L.length ≤ 20) : Sh 2 8263 (.tup (L.map nameA)) := by
  refine (sh_tup (d := 1) (n := 411) fun a ha => ?_).mono (by decide) (by rw [List.length_map]; omega)
  obtain ⟨n, hn, rfl⟩ := List.mem_map.mp ha
  exact (h n hn).sh
theorem sh_rec {r : Rc} (h1 : NmOk r.nm) (h2 : Tx AnyC 20 r.hand) (h3 : ∀ n ∈ r.base, NmOk n) (h4 : r.base.length ≤ 20) (h5 : DeedOk r.deed) : Sh 3 33063 (recA r) := by
  refine (sh_tup (d := 2) (n := 8263) fun a ha => ?_).mono (by decide) (by simp)
  simp only [List.mem_cons, List.not_mem_nil, or_false] at ha
  rcases ha with rfl | rfl | rfl | rfl
  · exact h1.sh.mono (by decide) (by decide)
  · exact h2.sh.mono (by decide) (by decide)
  · exact sh_names h3 h4
  · exact h5.sh.mono (by decide) (by decide)
theorem nd_knows_len (h : WOk w) (hl : w.length ≤ 20) {n : Nm} (hn : n ∈ namesW w) : (knowsW w n).length ≤ 20 := by
  have := nd_len (knowsW w n) (namesW w) (h.trans n hn).2 fun x hx => ((h.trans n hn).1 x hx).1
  simp only [namesW, List.length_map] at this
  omega
theorem sh_recOf (h : WOk w) (hl : w.length ≤ 20) {n : Nm} (hn : n ∈ namesW w) : Sh 3 33063 (recA (recOf w n)) := by
  obtain ⟨_, hr, _⟩ := recOf_in hn
  obtain ⟨d1, d2, d3⟩ := h.deeds _ hr
  have hb := h.base n hn
  refine sh_rec d2 d3 (fun x hx => ?_) ?_ d1
  · rw [hb] at hx
    exact h.names x ((h.trans n hn).1 x (List.mem_filter.mp hx).1).1
  · rw [hb]
    exact Nat.le_trans (List.length_filter_le _ _) (nd_knows_len h hl hn)
theorem sh_led (h : WOk w) (hl : w.length ≤ 20) {L : List Nm} (hL : ∀ n ∈ L, n ∈ namesW w) (hn : L.length ≤ 20) : Sh 4 661303 (ledA w L) := by
  refine (sh_tup (d := 3) (n := 33063) fun a ha => ?_).mono (by decide) (by rw [List.length_map]; omega)
  obtain ⟨n, hn, rfl⟩ := List.mem_map.mp ha
  exact sh_recOf h hl (hL n hn)
/-- the world's names, by a test -/
theorem allN_filter_self (p : Nm → Bool) {L : List Nm} (h : L = (allN w).filter p) : (allN w).filter (fun n => decide (n ∈ L)) = L := by
  subst h
  refine List.filter_congr fun x hx => ?_
  rw [Bool.eq_iff_iff, decide_eq_true_eq, List.mem_filter]
  exact ⟨fun z => z.2, fun z => ⟨hx, z⟩⟩
end
end Px

/-! Px15: more rules: list(d), zip, pairs assigned, order of names. -/
namespace Px
open PySem hiding Env plain
open L2 Mx StrLaws PySem.W
section
variable {G : Env} {M : AH} {E : Str → List (Str × AV) → AH → Prop}
@[simp] theorem wpS_par {D : SD} (i j : Nat) (a b : EM) : wpS (mPar i j (mCons a (mCons b mNil)) G M) D = wpR (a G M) (fun x M1 => wpR (b G M1) (fun y M2 => D.nx ((G.set i (some x)).set j (some y)) M2) D.ex) D.ex := by
  unfold mPar
  rw [wpS_st]
  simp
@[simp] theorem wpS_par3 {D : SD} (i j k : Nat) (a b c : EM) : wpS (mPar3 i j k (mCons a (mCons b (mCons c mNil))) G M) D = wpR (a G M) (fun x M1 => wpR (b G M1) (fun y M2 => wpR (c G M2) (fun z M3 => D.nx (((G.set i (some x)).set j (some y)).set k (some z)) M3) D.ex) D.ex) D.ex := by
  unfold mPar3
  rw [wpS_st]
  simp
@[simp] theorem w_zip {P : Src → AH → Prop} (n : AM) : wpR (mZip n G M) P E = wpR (n G M) (fun as M1 => wpR (gZip as M1) P E) E := by
  unfold mZip
  simp
@[simp] theorem w_enum {P : Src → AH → Prop} (n : AM) : wpR (mEnum n G M) P E = wpR (n G M) (fun as M1 => wpR (gEnum as M1) P E) E := by
  unfold mEnum
  simp
@[simp] theorem w_rev {P : Src → AH → Prop} (m : EM) : wpR (mRev m G M) P E = wpR (m G M) (fun a M1 => wpR (gRev a M1) P E) E := by
  unfold mRev
  simp
@[simp] theorem v_zipL (xs ys : List AV) : gZip [.lst xs, .lst ys] M = .ok ⟨zipA xs ys, none⟩ M := byrfl rfl
@[simp] theorem v_zipT (xs ys : List AV) : gZip [.tup xs, .tup ys] M = .ok ⟨zipA xs ys, none⟩ M := byrfl rfl
@[simp] theorem v_enumL (xs : List AV) : gEnum [.lst xs] M = .ok ⟨enumA xs, none⟩ M := byrfl rfl
@[simp] theorem v_revL (xs : List AV) : gRev (.lst xs) M = .ok ⟨xs.reverse, none⟩ M := byrfl rfl
@[simp] theorem v_revT (xs : List AV) : gRev (.tup xs) M = .ok ⟨xs.reverse, none⟩ M := byrfl rfl
end
theorem v_leN (a b : Nm) {M : AH} : gLeD (nameA a) (nameA b) M = .ok (.bl (!nlt b a)) M := by
  have h : alike (toD (nameA a)) (toD (nameA b)) = true := by
    show alike (.tuple [.int a.1, .str a.2]) (.tuple [.int b.1, .str b.2]) = true
    simp [alike, alikeAll]
  have h2 : (plain 60 (nameA a) && plain 60 (nameA b) && alike (toD (nameA a)) (toD (nameA b)) && notN (nameA a)) = true := by
    rw [plain_name, plain_name, h]
    rfl
  show (if _ then _ else _) = _
  rw [if_pos h2]
  simp only [nlt_data]
theorem v_ltN (a b : Nm) {M : AH} : gLtD (nameA a) (nameA b) M = .ok (.bl (nlt a b)) M := by
  have h : alike (toD (nameA a)) (toD (nameA b)) = true := by
    show alike (.tuple [.int a.1, .str a.2]) (.tuple [.int b.1, .str b.2]) = true
    simp [alike, alikeAll]
  have h2 : (plain 60 (nameA a) && plain 60 (nameA b) && alike (toD (nameA a)) (toD (nameA b)) && notN (nameA a)) = true := by
    rw [plain_name, plain_name, h]
    rfl
  show (if _ then _ else _) = _
  rw [if_pos h2]
  simp only [nlt_data]
section
variable {w : List Rc} {l : List (Str × Nm)} {h : List Nm} {tmp : List AV} {M : AH}
theorem w_listCh (hM : Fs (wrest w l h ++ tmp) [] M) : gListD [.ref 1] M = .ok (.lst ((namesW w).map nameA)) M := by
  have h1 : dctT M (.ref 1) = some (chK w) := f_dctT (i := 0) hM rfl
  have h2 : lstR M (.ref 1) = none := f_lstR_T (i := 0) hM rfl
  have h3 : itemsOf M (.ref 1) = none := h2
  simp only [gListD, h3, h1, keysT_byN]
theorem v_seqLed (L : List Nm) : seqOf M (ledA w L) = some ⟨L.map fun n => recA (recOf w n), none⟩ := byrfl rfl
theorem v_tupLed (L : List Nm) : gTuple [.lst (L.map fun n => recA (recOf w n))] M = .ok (ledA w L) M := byrfl rfl
theorem d_ledgerAll (hM : Fs (wrest w l h ++ tmp) [] M) (hl : w.length ≤ 20) : m_ledger [.ref 5, .lst ((namesW w).map nameA)] M = .ok (ledA w (allN w)) M := by
  rw [d_ledger hM hl]
  have e : (allN w).filter (fun n => decide (n ∈ namesW w)) = allN w := List.filter_eq_self.mpr fun n hn => decide_eq_true (mem_allN.mp hn)
  rw [e]
end
end Px

/-! Px16: locks, more of tracked lists, the order of names. -/
namespace Px
open PySem hiding Env plain
open L2 Mx StrLaws PySem.W
section
variable {rest : List AV} {fz : List Nat} {M : AH} {P : AV → AH → Prop} {E : Str → List (Str × AV) → AH → Prop} {G : Env} {i : Nat} {xs : List AV}
theorem w_lockS {D : SD} {me : EM} {m : SM} {n : Nat} (h : selM me G M = some n) (q : wpS (m G (lk M n)) ⟨fun G' M' => M'.fz = n :: M.fz ∧ D.nx G' (ulk M' M.fz), fun a M' => M'.fz = n :: M.fz ∧ D.rt a (ulk M' M.fz), fun _ _ _ => False, fun G' M' => M'.fz = n :: M.fz ∧ D.bk G' (ulk M' M.fz), fun G' M' => M'.fz = n :: M.fz ∧ D.ct G' (ulk M' M.fz)⟩) : wpS (mLockS me m G M) D := by
  unfold mLockS
  rw [h]
  simp only
  cases e : m G (lk M n) with
  | next G' M' =>
    rw [e] at q
    obtain ⟨h1, h2⟩ := q
    simp only [h1, if_true]
    exact h2
  | ret a M' =>
    rw [e] at q
    obtain ⟨h1, h2⟩ := q
    simp only [h1, if_true]
    exact h2
  | brk G' M' =>
    rw [e] at q
    obtain ⟨h1, h2⟩ := q
    simp only [h1, if_true]
    exact h2
  | cnt G' M' =>
    rw [e] at q
    obtain ⟨h1, h2⟩ := q
    simp only [h1, if_true]
    exact h2
  | exc c fs G' M' => rw [e] at q; exact q.elim
  | stuck => rw [e] at q; exact q.elim
theorem w_lockE {me m : EM} {n : Nat} (h : selM me G M = some n) (q : wpR (m G (lk M n)) (fun a M' => M'.fz = n :: M.fz ∧ P a (ulk M' M.fz)) fun _ _ _ => False) : wpR (mLockE me m G M) P E := by
  unfold mLockE
  rw [h]
  simp only
  cases e : m G (lk M n) with
  | ok a M' =>
    rw [e] at q
    obtain ⟨h1, h2⟩ := q
    simp only [h1, if_true]
    exact h2
  | exc c fs M' => rw [e] at q; exact q.elim
  | stuck => rw [e] at q; exact q.elim
@[simp] theorem w_keys {Q : Src → AH → Prop} (m : EM) : wpR (mKeys m G M) Q E = wpR (m G M) (fun a M1 => ∃ xs, keysOf M1 a = some xs ∧ Q ⟨xs, none⟩ M1) E := by
  unfold mKeys
  rw [wpR_bind]
  congr 1
  funext a M1
  cases keysOf M1 a <;> simp
theorem ulk_lk (n : Nat) : ulk (lk M n) M.fz = M := rfl
theorem Fs.lk (h : Fs rest fz M) (n : Nat) : Fs rest (n :: fz) (lk M n) := by
  obtain ⟨cs, a, l, k, rfl⟩ := h
  exact ⟨cs, a, l, k, rfl⟩
theorem Fs.ulk {n : Nat} (h : Fs rest (n :: fz) M) : Fs rest fz (ulk M fz) := by
  obtain ⟨cs, a, l, k, rfl⟩ := h
  exact ⟨cs, a, l, k, rfl⟩
theorem f_keysT {kvs : List (List Key × AV)} (h : Fs rest fz M) (hx : rest[i]? = some (.dT kvs)) (hf : i + 1 ∈ fz) : keysOf M (.ref (i + 1)) = some (keysT kvs) := by
  have e : M.objs[i + 1]? = some (.dT kvs) := by rw [h.get, hx]
  have e2 : i + 1 ∈ M.fz := by rw [h.fzs]; exact hf
  simp only [keysOf, e2, if_true, e]
theorem f_keysK {kvs : List (Key × AV)} (h : Fs rest fz M) (hx : rest[i]? = some (.dK kvs)) (hf : i + 1 ∈ fz) : keysOf M (.ref (i + 1)) = some (keysK kvs) := by
  have e : M.objs[i + 1]? = some (.dK kvs) := by rw [h.get, hx]
  have e2 : i + 1 ∈ M.fz := by rw [h.fzs]; exact hf
  simp only [keysOf, e2, if_true, e]
theorem f_selT {kvs : List (List Key × AV)} {me : EM} {M' : AH} (h : Fs rest fz M) (hx : rest[i]? = some (.dT kvs)) (hf : i + 1 ∉ fz) (hm : me G M = .ok (.ref (i + 1)) M') : selM me G M = some (i + 1) := by
  have e : M.objs[i + 1]? = some (.dT kvs) := by rw [h.get, hx]
  have e2 : i + 1 ∉ M.fz := by rw [h.fzs]; exact hf
  simp only [selM, hm, e, if_neg e2]
theorem f_insert {y : AV} {k : Int} (h : Fs rest fz M) (hx : rest[i]? = some (.lst xs)) (k0 : 0 ≤ k) (k1 : k < 2 ^ 62) (hl : xs.length < 16777216) (q : ∀ M', Fs (rest.set i (.lst (xs.take k.toNat ++ [y] ++ xs.drop k.toNat))) fz M' → P .non M') : wpR (gInsert (.ref (i + 1)) [.int k, y] M) P E := by
  have e : M.objs[i + 1]? = some (.lst xs) := by rw [h.get, hx]
  simp only [gInsert, e]
  rw [if_pos ⟨k0, k1, hl⟩]
  exact q _ (h.set i _)
theorem f_tuple (h : Fs rest fz M) (hx : rest[i]? = some (.lst xs)) : gTuple [.ref (i + 1)] M = .ok (.tup xs) M := by
  have e : M.objs[i + 1]? = some (.lst xs) := by rw [h.get, hx]
  simp [gTuple, gTuple1, itemsOf, lstR, e]
theorem f_neR0 (h : Fs rest fz M) (hx : rest[i]? = some (.lst xs)) (hp : plain 60 (.lst xs) = true) : gNe (.ref (i + 1)) (.lst []) M = .ok (.bl (!xs.isEmpty)) M := by
  have e : M.objs[i + 1]? = some (.lst xs) := by rw [h.get, hx]
  have e1 : top M (.ref (i + 1)) = .lst xs := by
    show M.objs.getD (i + 1) .non = _
    rw [List.getD_eq_getElem?_getD, e]
    rfl
  have e2 : plain 60 (.lst []) = true := rfl
  have e3 : top M (.lst []) = .lst [] := rfl
  simp only [gNe, e1, e3, hp, e2, Bool.and_self, if_true, aeq, toD, PyData.eqv, toDs, eqv_nil]
theorem f_rep {k : Int} (h : Fs rest fz M) (hx : rest[i]? = some (.lst xs)) (k0 : 0 ≤ k) (k1 : k < 2 ^ 63) (hl : xs.length * k.toNat ≤ 16777216) : gRep (.ref (i + 1)) (.int k) M = .ok (.lst (repA xs k)) M := by
  have e : M.objs[i + 1]? = some (.lst xs) := by rw [h.get, hx]
  have e2 : lstX M (.ref (i + 1)) = some xs := by simp [lstX, e]
  simp only [gRep, e2]
  rw [if_pos ⟨by omega, k1, hl⟩]
end
theorem v_slRL (xs : List AV) (l h : Option Int) {M : AH} : gSlR (.lst xs) l h M = .ok (.ref M.objs.length) ⟨M.objs ++ [.lst (cutA xs l h)], M.fz⟩ := rfl
/-! ### the order of names -/
theorem nle_total (a b : Nm) : (!nlt b a || !nlt a b) = true := by
  unfold nlt
  by_cases h : a.1 = b.1
  · rw [if_pos h, if_pos h.symm]
    by_cases e : a.2 = b.2
    · simp [e]
    · have e' : ¬ b.2 = a.2 := fun z => e z.symm
      rw [if_neg e, if_neg e']
      simp only [Bool.or_eq_true, Bool.not_eq_true', decide_eq_false_iff_not]
      by_cases q : b.2.cps.toList < a.2.cps.toList
      · exact .inr (List.lt_asymm q)
      · exact .inl q
  · have h' : ¬ b.1 = a.1 := fun z => h z.symm
    rw [if_neg h, if_neg h']
    simp only [Bool.or_eq_true, Bool.not_eq_true', decide_eq_false_iff_not]
    omega
theorem nle_iff (a b : Nm) : (!nlt b a) = true ↔ a.1 < b.1 ∨ (a.1 = b.1 ∧ ¬ b.2.cps.toList < a.2.cps.toList) := by
  unfold nlt
  by_cases h : b.1 = a.1
  · rw [if_pos h]
    by_cases e : b.2 = a.2
    · rw [if_pos e]
      have : ¬ a.2.cps.toList < a.2.cps.toList := List.lt_irrefl _
      simp only [Bool.not_false, true_iff]
      exact .inr ⟨h.symm, by rw [e]; exact this⟩
    · rw [if_neg e]
      simp only [Bool.not_eq_true', decide_eq_false_iff_not]
      exact ⟨fun q => .inr ⟨h.symm, q⟩, fun q => q.elim (fun z => by omega) fun z => z.2⟩
  · rw [if_neg h]
    simp only [Bool.not_eq_true', decide_eq_false_iff_not]
    exact ⟨fun q => .inl (by omega), fun q => q.elim (fun z => by omega) fun z => absurd z.1.symm h⟩
theorem nle_trans (a b c : Nm) (h1 : (!nlt b a) = true) (h2 : (!nlt c b) = true) : (!nlt c a) = true := by
  rw [nle_iff] at h1 h2 ⊢
  rcases h1 with h1 | ⟨h1, q1⟩ <;> rcases h2 with h2 | ⟨h2, q2⟩
  · exact .inl (by omega)
  · exact .inl (by omega)
  · exact .inl (by omega)
  · refine .inr ⟨by omega, ?_⟩
    rw [List.not_lt] at q1 q2 ⊢
    exact List.le_trans q1 q2
theorem sorted_allN (w : List Rc) : (allN w).Pairwise fun a b => a.1 ≤ b.1 := by
  have h := List.pairwise_mergeSort (le := fun a b => !nlt b a) (fun a b c h1 h2 => nle_trans a b c h1 h2) (fun a b => nle_total a b) (namesW w)
  refine List.Pairwise.imp (fun {a b} q => ?_) h
  rcases (nle_iff a b).mp q with z | ⟨z, _⟩ <;> omega
/-- of what is known a base at least knows it, or is it -/
theorem base_cover {w : List Rc} (h : WOk w) {n m : Nm} (hn : n ∈ namesW w) (hm : m ∈ knowsW w n) : ∃ b ∈ (recOf w n).base, m = b ∨ m ∈ knowsW w b := by
  have go : ∀ (k : Nat) (m : Nm), (n.1 - m.1).toNat ≤ k → m ∈ knowsW w n → ∃ b ∈ (recOf w n).base, m = b ∨ m ∈ knowsW w b := by
    intro k
    induction k with
    | zero =>
      intro m hk hm
      have := ((h.trans n hn).1 m hm).2.1
      omega
    | succ k ih =>
      intro m hk hm
      by_cases hb : ∀ y ∈ knowsW w n, m ∉ knowsW w y
      · refine ⟨m, ?_, .inl rfl⟩
        rw [h.base n hn]
        exact List.mem_filter.mpr ⟨hm, decide_eq_true hb⟩
      · obtain ⟨y, hy, hmy⟩ : ∃ y, y ∈ knowsW w n ∧ m ∈ knowsW w y := Classical.byContradiction fun z => hb fun y hy hmy => z ⟨y, hy, hmy⟩
        obtain ⟨yn, ylt, ytr⟩ := (h.trans n hn).1 y hy
        have mlt := ((h.trans y yn).1 m hmy).2.1
        obtain ⟨b, hb1, hb2⟩ := ih y (by omega) hy
        refine ⟨b, hb1, .inr ?_⟩
        rcases hb2 with rfl | hb2
        · exact hmy
        · have hbn : b ∈ namesW w := by
            rw [h.base n hn] at hb1
            exact ((h.trans n hn).1 b (List.mem_filter.mp hb1).1).1
          exact ((h.trans b hbn).1 y hb2).2.2 m hmy
  exact go _ m (Nat.le_refl _) hm
end Px

/-! Px17: rows and their pairs that stand otherwise; exchanges of neighbours; while; lists that are walked while tracked. -/
namespace Px
open PySem hiding Env plain
open L2 Mx StrLaws

/-! ### places -/
def plc : List Nm → Nm → Nat
  | [], _ => 0
  | a :: r, n => if a = n then 0 else plc r n + 1
theorem plc_lt : ∀ {R : List Nm} {n : Nm}, n ∈ R → plc R n < R.length
  | a :: r, n, h => by
    unfold plc
    by_cases e : a = n
    · simp [e]
    · rw [if_neg e]
      rcases List.mem_cons.mp h with z | z
      · exact absurd z.symm e
      · have := plc_lt z
        simp only [List.length_cons]
        omega
theorem plc_inj : ∀ {R : List Nm} {a b : Nm}, a ∈ R → b ∈ R → plc R a = plc R b → a = b
  | c :: r, a, b, ha, hb, h => by
    unfold plc at h
    by_cases e1 : c = a
    · by_cases e2 : c = b
      · exact e1.symm.trans e2
      · rw [if_pos e1, if_neg e2] at h
        omega
    · by_cases e2 : c = b
      · rw [if_neg e1, if_pos e2] at h
        omega
      · rw [if_neg e1, if_neg e2] at h
        refine plc_inj (R := r) ?_ ?_ (by omega)
        · exact (List.mem_cons.mp ha).resolve_left fun z => e1 z.symm
        · exact (List.mem_cons.mp hb).resolve_left fun z => e2 z.symm
theorem plc_app : ∀ {u v : List Nm} {n : Nm}, n ∉ u → plc (u ++ n :: v) n = u.length
  | [], v, n, _ => by simp [plc]
  | a :: u, v, n, h => by
    have h1 : a ≠ n := fun z => h (by simp [z])
    have ih := plc_app (u := u) (v := v) (n := n) fun z => h (by simp [z])
    simp [plc, h1, ih]
theorem plc_left : ∀ {u v : List Nm} {n : Nm}, n ∈ u → plc (u ++ v) n < u.length
  | a :: u, v, n, h => by
    simp only [List.cons_append, plc, List.length_cons]
    by_cases e : a = n
    · rw [if_pos e]
      omega
    · rw [if_neg e]
      have := plc_left (v := v) ((List.mem_cons.mp h).resolve_left fun z => e z.symm)
      omega
theorem plc_sorted : ∀ {R : List Nm}, R.Nodup → R.Pairwise fun a b => plc R a < plc R b
  | [], _ => .nil
  | a :: r, h => by
    obtain ⟨h1, h2⟩ := List.nodup_cons.mp h
    refine List.pairwise_cons.mpr ⟨fun b hb => ?_, (plc_sorted h2).imp_of_mem fun {x y} hx hy q => ?_⟩
    · have e : a ≠ b := fun z => h1 (z ▸ hb)
      simp [plc, e]
    · have e1 : a ≠ x := fun z => h1 (z ▸ hx)
      have e2 : a ≠ y := fun z => h1 (z ▸ hy)
      simp only [plc, if_neg e1, if_neg e2]
      omega

/-! ### neighbours exchanged -/
def swp : List Nm → Nat → List Nm
  | a :: b :: t, 0 => b :: a :: t
  | a :: t, k + 1 => a :: swp t k
  | xs, _ => xs
theorem swp_perm : ∀ (xs : List Nm) (k : Nat), (swp xs k).Perm xs
  | [], 0 => .refl _
  | [], k + 1 => .refl _
  | [a], 0 => .refl _
  | a :: b :: t, 0 => .swap _ _ _
  | [a], k + 1 => .cons a (swp_perm [] k)
  | a :: b :: t, k + 1 => .cons a (swp_perm (b :: t) k)
theorem swp_len (xs : List Nm) (k : Nat) : (swp xs k).length = xs.length := (swp_perm xs k).length_eq
theorem swp_eq : ∀ (xs : List Nm) (k : Nat) (a b : Nm), xs[k]? = some a → xs[k + 1]? = some b → swp xs k = xs.take k ++ [b, a] ++ xs.drop (k + 2)
  | [], k, _, _, h, _ => by simp at h
  | [x], 0, _, _, _, h => by simp at h
  | x :: y :: t, 0, a, b, h1, h2 => by
    simp at h1 h2
    subst h1 h2
    simp [swp]
  | [x], k + 1, _, _, h, _ => by simp at h
  | x :: y :: t, k + 1, a, b, h1, h2 => by
    have ih := swp_eq (y :: t) k a b (by simpa using h1) (by simpa using h2)
    simp [swp, ih]
section
variable {p : Nm → Nat}
def Desc (p : Nm → Nat) (xs : List Nm) (k : Nat) : Prop := ∃ a b, xs[k]? = some a ∧ xs[k + 1]? = some b ∧ p b < p a
/-- the pairs that stand otherwise -/
def inv (p : Nm → Nat) : List Nm → Nat
  | [] => 0
  | a :: r => r.countP (fun x => decide (p x < p a)) + inv p r
theorem inv_swp : ∀ {xs : List Nm} {k : Nat}, Desc p xs k → inv p (swp xs k) + 1 = inv p xs
  | [], k, ⟨a, b, h, _⟩ => by simp at h
  | [x], 0, ⟨a, b, _, h, _⟩ => by simp at h
  | [x], k + 1, ⟨a, b, h, _⟩ => by simp at h
  | x :: y :: t, 0, ⟨a, b, h1, h2, h3⟩ => by
    simp at h1 h2
    subst h1 h2
    have h4 : ¬ p x < p y := by omega
    simp only [swp, inv, List.countP_cons, h3, h4, decide_true, decide_false, if_true, if_false]
    simp
    omega
  | x :: y :: t, k + 1, ⟨a, b, h1, h2, h3⟩ => by
    have ih := inv_swp (xs := y :: t) (k := k) ⟨a, b, by simpa using h1, by simpa using h2, h3⟩
    have e : swp (x :: y :: t) (k + 1) = x :: swp (y :: t) k := rfl
    rw [e]
    simp only [inv] at ih ⊢
    rw [(swp_perm (y :: t) k).countP_eq]
    omega
theorem inv_snoc (y : Nm) : ∀ xs : List Nm, inv p (xs ++ [y]) = inv p xs + xs.countP fun x => decide (p y < p x)
  | [] => by simp [inv]
  | a :: r => by
    have ih := inv_snoc y r
    simp only [List.cons_append, inv, ih, List.countP_append, List.countP_cons, List.countP_nil]
    omega
theorem inv_le : ∀ xs : List Nm, inv p xs ≤ xs.length * xs.length
  | [] => by simp [inv]
  | a :: r => by
    have ih := inv_le r
    have h := List.countP_le_length (l := r) (p := fun x => decide (p x < p a))
    simp only [inv, List.length_cons]
    have e : (r.length + 1) * (r.length + 1) = r.length * r.length + 2 * r.length + 1 := by
      rw [Nat.add_mul, Nat.mul_add]
      omega
    omega
theorem no_desc : ∀ {xs : List Nm}, (∀ k, ¬ Desc p xs k) → xs.Pairwise fun a b => p a ≤ p b
  | [], _ => .nil
  | [a], _ => List.pairwise_singleton ..
  | a :: b :: t, h => by
    have ih := no_desc (xs := b :: t) fun k ⟨x, y, h1, h2, h3⟩ => h (k + 1) ⟨x, y, by simpa using h1, by simpa using h2, h3⟩
    have hab : p a ≤ p b := by
      apply Classical.byContradiction
      intro z
      exact h 0 ⟨a, b, rfl, rfl, by omega⟩
    refine List.pairwise_cons.mpr ⟨fun c hc => ?_, ih⟩
    rcases List.mem_cons.mp hc with z | z
    · rw [z]; exact hab
    · exact Nat.le_trans hab ((List.pairwise_cons.mp ih).1 c z)
theorem inv_zero : ∀ {xs : List Nm}, xs.Pairwise (fun a b => p a ≤ p b) → inv p xs = 0
  | [], _ => rfl
  | a :: r, h => by
    obtain ⟨h1, h2⟩ := List.pairwise_cons.mp h
    have e : r.countP (fun x => decide (p x < p a)) = 0 := List.countP_eq_zero.mpr fun x hx => by
      have := h1 x hx
      simp
      omega
    simp [inv, e, inv_zero h2]
/-- a way by exchanges, each of a pair that stands otherwise -/
def Walk (p : Nm → Nat) : List Nm → List Nat → List Nm → Prop
  | A, [], C => A = C
  | A, k :: ks, C => Desc p A k ∧ Walk p (swp A k) ks C
theorem Walk.snoc : ∀ {ks : List Nat} {A C : List Nm} {k : Nat}, Walk p A ks C → Desc p C k → Walk p A (ks ++ [k]) (swp C k)
  | [], A, C, k, h, d => by
    have h : A = C := h
    subst h
    exact ⟨d, rfl⟩
  | j :: ks, A, C, k, h, d => ⟨h.1, Walk.snoc h.2 d⟩
theorem Walk.inv_ : ∀ {ks : List Nat} {A C : List Nm}, Walk p A ks C → inv p A = ks.length + inv p C
  | [], A, C, h => by
    have h : A = C := h
    simp [h]
  | j :: ks, A, C, h => by
    have h1 := inv_swp h.1
    have h2 := Walk.inv_ h.2
    simp only [List.length_cons]
    omega
theorem Walk.perm : ∀ {ks : List Nat} {A C : List Nm}, Walk p A ks C → A.Perm C
  | [], A, C, h => by
    have h : A = C := h
    rw [h]
  | j :: ks, A, C, h => (swp_perm A j).symm.trans (Walk.perm h.2)
end
theorem sorted_same {B xs : List Nm} (hB : B.Nodup) (hp : xs.Perm B) (h : ∀ k, ¬ Desc (plc B) xs k) : xs = B := by
  refine List.Perm.eq_of_pairwise (le := fun a b => plc B a ≤ plc B b) (fun a b ha hb h1 h2 => plc_inj (hp.mem_iff.mp ha) hb (Nat.le_antisymm h1 h2)) (no_desc h) ((plc_sorted hB).imp fun h => Nat.le_of_lt h) hp
/-! ### roads -/
def Road (w : List Rc) (R : List Nm) : Prop := R.Nodup ∧ (∀ n, n ∈ R ↔ n ∈ namesW w) ∧ ∀ u n v, R = u ++ n :: v → ∀ x ∈ knowsW w n, x ∈ u
theorem Road.lt {w : List Rc} {R : List Nm} (h : Road w R) {n x : Nm} (hn : n ∈ namesW w) (hx : x ∈ knowsW w n) : plc R x < plc R n := by
  obtain ⟨u, v, e⟩ := List.append_of_mem ((h.2.1 n).mpr hn)
  have hu : n ∉ u := fun z => by
    have := h.1
    rw [e, List.nodup_append] at this
    exact this.2.2 n z n (by simp) rfl
  have hxu := h.2.2 u n v e x hx
  rw [e, plc_app hu]
  exact plc_left hxu
theorem Road.perm {w : List Rc} {R T : List Nm} (h : Road w R) (g : Road w T) : R.Perm T := (List.perm_ext_iff_of_nodup h.1 g.1).mpr fun n => (h.2.1 n).trans (g.2.1 n).symm
theorem Road.len {w : List Rc} {R : List Nm} (hw : WOk w) (h : Road w R) : R.length = w.length := by
  have e : R.Perm (namesW w) := (List.perm_ext_iff_of_nodup h.1 hw.nd).mpr h.2.1
  rw [e.length_eq]
  simp [namesW]

/-! ### places in a dict -/
def plK (R : List Nm) : List (List Key × AV) := byN (fun q : Nm × Nat => q.1) (fun q => .int (q.2 : Nat)) R.zipIdx
theorem plK_get {R : List Nm} {n : Nm} (h : n ∈ R) : getK (plK R) (nameK n) = some (.int (plc R n : Nat)) := by
  unfold plK
  rw [getK_byN]
  have key : ∀ (R : List Nm) (k : Nat), n ∈ R → (R.zipIdx k).find? (fun r => decide (r.1 = n)) = some (n, k + plc R n) := by
    intro R
    induction R with
    | nil => intro k h; cases h
    | cons a r ih =>
      intro k h
      rw [List.zipIdx_cons, List.find?_cons]
      by_cases e : a = n
      · simp [e, plc]
      · have h2 : n ∈ r := (List.mem_cons.mp h).resolve_left fun z => e z.symm
        simp only [e, decide_false, ih (k + 1) h2, plc, if_false]
        simp
        omega
  rw [key R 0 h]
  simp
theorem plK_snoc {R : List Nm} {n : Nm} (h : n ∉ R) : setK (plK R) (nameK n) (.int (R.length : Nat)) = plK (R ++ [n]) := by
  unfold plK
  have e := setK_new (f := fun q : Nm × Nat => q.1) (g := fun q => .int (q.2 : Nat)) (w := R.zipIdx) (r := (n, R.length)) (by
    rw [List.zipIdx_map_fst]
    exact h)
  rw [List.zipIdx_append]
  simpa using e
theorem plK_len (R : List Nm) : (plK R).length = R.length := by simp [plK, byN]

/-! ### while, tracked lists -/
section
variable {G : Env} {M : AH} {rest : List AV} {fz : List Nat} {i : Nat} {xs : List AV} {P : AV → AH → Prop} {E : Str → List (Str × AV) → AH → Prop}
theorem wp_while {t : BM} {body : SM} {D : SD} (I : Nat → Env → AH → Prop)
    (hs : ∀ m G M, I m G M → wpR (t G M) (fun c M1 => if c = true then ∃ m', m = m' + 1 ∧ wpS (body G M1) ⟨I m', D.rt, D.ex, D.nx, I m'⟩ else D.nx G M1) D.ex) :
    ∀ (n m : Nat) (G : Env) (M : AH), m < n → I m G M → wpS (mWhile n t body G M) D
  | 0, m, _, _, h, _ => by omega
  | n + 1, m, G, M, h, hI => by
    have h1 := hs m G M hI
    show wpS ((t G M).st G fun c M1 => if c = true then (match body G M1 with
      | .next G2 M2 => wloop t body n G2 M2
      | .cnt G2 M2 => wloop t body n G2 M2
      | .brk G2 M2 => .next G2 M2
      | r => r) else .next G M1) D
    rw [wpS_st]
    refine h1.imp (fun c M1 h2 => ?_) fun _ _ _ z => z
    cases c with
    | false => exact h2
    | true =>
      obtain ⟨m', e, h3⟩ := h2
      have ih := fun G' M' (q : I m' G' M') => wp_while I hs n m' G' M' (by omega) q
      show wpS (match body G M1 with
        | .next G2 M2 => wloop t body n G2 M2
        | .cnt G2 M2 => wloop t body n G2 M2
        | .brk G2 M2 => .next G2 M2
        | r => r) D
      cases q : body G M1 with
      | next G2 M2 => rw [q] at h3; exact ih _ _ h3
      | cnt G2 M2 => rw [q] at h3; exact ih _ _ h3
      | brk G2 M2 => rw [q] at h3; exact h3
      | ret a M => rw [q] at h3; exact h3
      | exc c fs G M => rw [q] at h3; exact h3
      | stuck => rw [q] at h3; exact h3
/-- a comprehension that only looks, over a list that is tracked -/
theorem lcl_mapH {α : Type} {S : Src} {t : TMt} {c : BM} {el : EM} (hS : S.held M) (e : α → AV) (p : α → Bool) (f : α → AV) :
    ∀ (ys : List α) (acc : List AV), acc.length + ys.length ≤ 16777216 →
    (∀ x ∈ ys, ∃ G1, t (e x) G M = .ok G1 M ∧ c G1 M = .ok (p x) M ∧ (p x = true → el G1 M = .ok (f x) M)) →
    lcl S t c el G (ys.map e) acc M = .ok (acc ++ (ys.filter p).map f) M
  | [], acc, _, _ => by
    rw [show lcl S t c el G (List.map e []) acc M = .ok acc M from if_pos hS]
    simp
  | a :: r, acc, hn, h => by
    obtain ⟨G1, h1, h2, h3⟩ := h a (by simp)
    simp only [List.length_cons] at hn
    have e0 : lcl S t c el G ((a :: r).map e) acc M = (match t (e a) G M with
      | .ok G1 M1 => (match c G1 M1 with
        | .ok b M2 => if b = true then (match el G1 M2 with
          | .ok y M3 => sized (acc.length + 1) (lcl S t c el G (r.map e) (acc ++ [y]) M3)
          | _ => .stuck) else lcl S t c el G (r.map e) acc M2
        | _ => .stuck)
      | _ => .stuck) := if_pos hS
    rw [e0]
    simp only [h1, h2]
    by_cases hp : p a = true
    · simp only [hp, if_true, h3 hp]
      rw [lcl_mapH hS e p f r _ (by simp; omega) fun b hb => h b (by simp [hb])]
      unfold sized
      rw [if_pos (by omega)]
      simp [hp]
    · simp only [hp, if_false]
      rw [lcl_mapH hS e p f r _ (by omega) fun b hb => h b (by simp [hb])]
      simp [hp]
theorem erase_map {α β : Type} (f : α → β) : ∀ (l : List α) (j : Nat), (l.map f).eraseIdx j = (l.eraseIdx j).map f
  | [], j => by simp
  | a :: r, 0 => by simp
  | a :: r, j + 1 => by simp [erase_map f r j]
theorem aPlace_names {R : List Nm} {n : Nm} (h : n ∈ R) : aPlace (R.map nameA) (nameA n) = some (plc R n) := by
  unfold aPlace
  rw [List.findIdx?_map]
  induction R with
  | nil => cases h
  | cons a r ih =>
    rw [List.findIdx?_cons]
    simp only [Function.comp, aeq_name, plc]
    by_cases e : a = n
    · simp [e]
    · have h2 : n ∈ r := (List.mem_cons.mp h).resolve_left fun z => e z.symm
      have := ih h2
      simp [e, this, aeq_name]
theorem top_name (n : Nm) : top M (nameA n) = nameA n := rfl
theorem plain_all (R : List Nm) : (R.map nameA).all (plain 60) = true := by
  simp only [List.all_map, List.all_eq_true]
  exact fun n _ => plain_name n
/-- l.remove(n) -/
theorem f_remove {R : List Nm} {n : Nm} (h : Fs rest fz M) (hx : rest[i]? = some (.lst (R.map nameA))) (hn : n ∈ R) (q : ∀ M', Fs (rest.set i (.lst ((R.eraseIdx (plc R n)).map nameA))) fz M' → P .non M') : wpR (gRemove (.ref (i + 1)) [nameA n] M) P E := by
  have e : M.objs[i + 1]? = some (.lst (R.map nameA)) := by rw [h.get, hx]
  simp only [gRemove, e, top_name, plain_name, plain_all, Bool.and_self, if_true, aPlace_names hn, wpR_ok]
  rw [erase_map]
  exact q _ (h.set i _)
/-- t.index(n) -/
theorem v_index {R : List Nm} {n : Nm} (hn : n ∈ R) : gIndexT (.tuc (R.map nameA)) [nameA n] M = .ok (.int (plc R n : Nat)) M := by
  have e : itemsOf M (.tuc (R.map nameA)) = some (R.map nameA) := rfl
  simp only [gIndexT, tyT, if_true, gIndex, e, top_name, plain_name, plain_all, Bool.and_self, aPlace_names hn]
theorem f_tuc (h : Fs rest fz M) (hx : rest[i]? = some (.lst xs)) : gTucOf [.ref (i + 1)] M = .ok (.tuc xs) M := by
  have e : M.objs[i + 1]? = some (.lst xs) := by rw [h.get, hx]
  simp [gTucOf, lstR, e]
theorem v_seqC (ys : List AV) : seqOf M (.tuc ys) = some ⟨ys, none⟩ := byrfl rfl
theorem v_lenC (ys : List AV) : gLen [.tuc ys] M = .ok (.int ys.length) M := byrfl rfl
theorem v_listC (ys : List AV) : gListR [.tuc ys] M = .ok (.ref M.objs.length) ⟨M.objs ++ [.lst ys], M.fz⟩ := byrfl rfl
theorem v_listRL (ys : List AV) : gListR [.lst ys] M = .ok (.ref M.objs.length) ⟨M.objs ++ [.lst ys], M.fz⟩ := byrfl rfl
theorem w_enumT {P : Src → AH → Prop} (n : AM) : wpR (mEnumT n G M) P E = wpR (n G M) (fun as M1 => wpR (gEnumT as M1) P E) E := by
  unfold mEnumT
  simp
theorem v_enumC (ys : List AV) : gEnumT [.tuc ys] M = .ok ⟨enumA ys, none⟩ M := byrfl rfl
theorem v_enumT (ys : List AV) : gEnumT [.tup ys] M = .ok ⟨enumA ys, none⟩ M := byrfl rfl
theorem w_ixC {ys : List AV} {k : Int} : wpR (gIx (.tuc ys) (.int k) M) P E = ∃ v, atI ys k = some v ∧ P v M := by
  show wpR (match atI ys k with | some v => Res.ok v M | none => .stuck) P E = _
  cases atI ys k <;> simp
theorem Sh.tuc {d n : Nat} {ys : List AV} (h : Sh d n (.tup ys)) : Sh d n (.tuc ys) := ⟨by
  have := h.pl
  cases d with
  | zero => simp [plain] at this
  | succ d => simpa [plain] using this, h.ok, h.le⟩
end
end Px
namespace Px
open PySem hiding Env plain
open L2 Mx StrLaws
theorem f_inN {rest : List AV} {fz : List Nat} {M : AH} {i : Nat} {R : List Nm} {n : Nm} {neg : Bool} (h : Fs rest fz M) (hx : rest[i]? = some (.lst (R.map nameA))) : gIn neg (nameA n) (.ref (i + 1)) M = .ok (.bl (if neg then !decide (n ∈ R) else decide (n ∈ R))) M := by
  have e : M.objs[i + 1]? = some (.lst (R.map nameA)) := by rw [h.get, hx]
  have e1 : dctK M (.ref (i + 1)) = none := by simp [dctK, e]
  have e2 : dctT M (.ref (i + 1)) = none := by simp [dctT, e]
  have e3 : itemsOf M (.ref (i + 1)) = some (R.map nameA) := by simp [itemsOf, lstR, e]
  have e4 : (R.map nameA).any (fun z => aeq z (nameA n)) = decide (n ∈ R) := by
    rw [List.any_map, Bool.eq_iff_iff, List.any_eq_true, decide_eq_true_eq]
    simp [aeq_name]
  simp only [gIn, inA, e1, e2, e3, top_name, plain_name, plain_all, Bool.and_self, if_true, e4]
end Px

/-! Px18: exchanges told, roads drawn. -/
namespace Px
open PySem hiding Env plain
open L2 Mx StrLaws
noncomputable def road_b : SM := mThen (mSet 3 (mCall gListR (mCons (mVar 2) (mNil)))) (mThen (mSet 4 (mLstR (mNil))) (mThen (mSet 5 (mCall m_draw (mCons (mVar 0) (mCons (mC (.int 3)) (mNil))))) (mThen (mWhile 1000000 (mBl (mBin gNe (mVar 3) (mLst (mNil)))) (mThen (mSet 7 (mLcV (mLc [6] (mSeq (mVar 3)) (gNm 6) (mBl (mBin gEq (mLcV (mLc [8] (mSeq (mBin gIx (mBin gIx (mVar 1) (mC (.str "knows"))) (mVar 6))) (gNm 8) (mBl (mBin (gIn false) (mVar 8) (mVar 3))) (mVar 8))) (mLst (mNil)))) (mVar 6)))) (mThen (mSet 6 (mBin gIx (mVar 7) (mBin gIx (mLst (mCons (mCall m_draw (mCons (mVar 0) (mCons (mCall gLen (mCons (mVar 7) (mNil))) (mNil)))) (mCons (mC (.int 0)) (mCons (mBin gSub (mCall gLen (mCons (mVar 7) (mNil))) (mC (.int 1))) (mNil))))) (mVar 5)))) (mThen (mExp (mMeth tyL gRemove (mVar 3) (mCons (mVar 6) (mNil)))) (mExp (mMeth tyL gAppend (mVar 4) (mCons (mVar 6) (mNil)))))))) (mRet (mCall gTucOf (mCons (mVar 4) (mNil)))))))
noncomputable def m_road : List AV → AH → Res AV := gc (mDef 3 6 road_b)
noncomputable def exch_b : SM := mRet (mBin gAdd (mBin gAdd (mSl gSl (mVar 0) (mNoPart) (mPart (mVar 1))) (mTup (mCons (mBin gIx (mVar 0) (mBin gAdd (mVar 1) (mC (.int 1)))) (mCons (mBin gIx (mVar 0) (mVar 1)) (mNil))))) (mSl gSl (mVar 0) (mPart (mBin gAdd (mVar 1) (mC (.int 2)))) (mNoPart)))
noncomputable def m_exch : List AV → AH → Res AV := gc (mDef 2 0 exch_b)
noncomputable def firstU_b : SM := mThen (mFor (mRng1 (mCons (mBin gSub (mCall gLen (mCons (mVar 0) (mNil))) (mC (.int 1))) (mNil))) (gNm 2) (mIf (mBl (mBin gGt (mBin gIx (mVar 1) (mBin gIx (mVar 0) (mVar 2))) (mBin gIx (mVar 1) (mBin gIx (mVar 0) (mBin gAdd (mVar 2) (mC (.int 1))))))) (mRet (mVar 2)) (mNext))) (mRet (mC .non))
noncomputable def m_firstU : List AV → AH → Res AV := gc (mDef 2 1 firstU_b)
noncomputable def paper_b : SM := mThen (mSet 3 (mDictT)) (mThen (mFor (mEnumT (mCons (mVar 2) (mNil))) (gTp 2 (gsCons (gNm 4) (gsCons (gNm 5) (gsNil)))) (mAsg (gPut (mVar 3) (mVar 5)) (mVar 4))) (mThen (mSet 6 (mVar 1)) (mThen (mSet 7 (mLstR (mNil))) (mThen (mSet 8 (mCall m_firstU (mCons (mVar 6) (mCons (mVar 3) (mNil))))) (mThen (mWhile 1000000 (mBl (mBin gNotN (mVar 8) (mC .non))) (mThen (mExp (mMeth tyL gAppend (mVar 7) (mCons (mVar 8) (mNil)))) (mThen (mSet 6 (mCall m_exch (mCons (mVar 6) (mCons (mVar 8) (mNil))))) (mSet 8 (mCall m_firstU (mCons (mVar 6) (mCons (mVar 3) (mNil)))))))) (mRet (mCall gTuple (mCons (mVar 7) (mNil)))))))))
noncomputable def m_paper : List AV → AH → Res AV := gc (mDef 3 6 paper_b)

/-- a row, as a tuple of either kind -/
def RowA (a : AV) (xs : List AV) : Prop := a = .tup xs ∨ a = .tuc xs
section
variable {M : AH} {a c : AV} {xs : List AV} {k : Nat} {P : AV → AH → Prop} {E : Str → List (Str × AV) → AH → Prop}
theorem cutA_take (ys : List AV) (k : Nat) : cutA ys none (some (k : Int)) = ys.take k := by
  unfold cutA
  rw [show HT.sIx ys.length 0 none = 0 from rfl, HT.sIx_nat, List.drop_zero, Nat.sub_zero]
  by_cases h : k ≤ ys.length
  · rw [Nat.min_eq_left h]
  · rw [Nat.min_eq_right (by omega), List.take_length, List.take_of_length_le (by omega)]
theorem cutA_drop (ys : List AV) (k : Nat) : cutA ys (some (k : Int)) none = ys.drop k := by
  unfold cutA
  rw [show HT.sIx ys.length ys.length none = ys.length from rfl, HT.sIx_nat]
  by_cases h : k ≤ ys.length
  · rw [Nat.min_eq_left h]
    exact List.take_of_length_le (by rw [List.length_drop]; omega)
  · rw [Nat.min_eq_right (by omega), Nat.sub_self, List.take_zero, List.drop_of_length_le (by omega)]
theorem r_sl1 (ha : RowA a xs) (hk : k < xs.length) : gSl a none (some (k : Int)) M = .ok (.tup (xs.take k)) M := by
  rcases ha with rfl | rfl
  · rw [v_slT, cutA_take]
  · show Res.ok (if HT.sIx xs.length 0 none = 0 ∧ HT.sIx xs.length xs.length (some (k : Int)) = xs.length then AV.tuc xs else .tup (cutA xs none (some (k : Int)))) M = _
    rw [if_neg, cutA_take]
    rw [HT.sIx_nat]
    omega
theorem r_sl2 (ha : RowA a xs) : gSl a (some ((k : Int) + 2)) none M = .ok (if xs = [] then a else .tup (xs.drop (k + 2))) M := by
  rw [show ((k : Int) + 2) = ((k + 2 : Nat) : Int) by omega]
  rcases ha with rfl | rfl
  · rw [v_slT, cutA_drop]
    by_cases h : xs = []
    · subst h
      simp
    · rw [if_neg h]
  · show Res.ok (if HT.sIx xs.length 0 (some ((k + 2 : Nat) : Int)) = 0 ∧ HT.sIx xs.length xs.length none = xs.length then AV.tuc xs else .tup (cutA xs (some ((k + 2 : Nat) : Int)) none)) M = _
    rw [cutA_drop, HT.sIx_nat]
    by_cases h : xs = []
    · subst h
      simp
      rfl
    · have : xs.length ≠ 0 := fun z => h (List.length_eq_zero_iff.mp z)
      rw [if_neg (by omega), if_neg h]
theorem r_ix (ha : RowA a xs) {i : Int} : wpR (gIx a (.int i) M) P E = ∃ v, atI xs i = some v ∧ P v M := by
  rcases ha with rfl | rfl
  · exact w_ixT
  · exact w_ixC
theorem r_len (ha : RowA a xs) : gLen [a] M = .ok (.int xs.length) M := by
  rcases ha with rfl | rfl <;> rfl
theorem r_enum (ha : RowA a xs) : gEnumT [a] M = .ok ⟨enumA xs, none⟩ M := by
  rcases ha with rfl | rfl <;> rfl
theorem r_seq (ha : RowA a xs) : seqOf M a = some ⟨xs, none⟩ := by
  rcases ha with rfl | rfl <;> rfl
theorem at_nat {ys : List AV} {j : Nat} (h : j < ys.length) : atI ys (j : Int) = some (ys[j]) := by
  rw [at_nn (by omega) (by omega)]
  simp
theorem rng_get {lo : Int} {n j : Nat} {x : AV} (h : (rngItems lo n)[j]? = some x) : x = .int (lo + j) := by
  obtain ⟨h1, h2⟩ := List.getElem?_eq_some_iff.mp h
  simp [rngItems] at h2
  exact h2.symm
/-- two neighbours exchanged -/
theorem q_exch {R : List Nm} (ha : RowA a (R.map nameA)) (hk : k + 1 < R.length) (hl : R.length ≤ 1000) : m_exch [a, .int (k : Nat)] M = .ok (.tup ((swp R k).map nameA)) M := by
  refine pure_eq rfl ?_
  unfold exch_b
  have e1 : gSl a none (some (k : Int)) M = .ok (.tup ((R.map nameA).take k)) M := r_sl1 ha (by rw [List.length_map]; omega)
  have e2 : gSl a (some ((k : Int) + 2)) none M = .ok (.tup ((R.map nameA).drop (k + 2))) M := by
    rw [r_sl2 ha, if_neg]
    intro z
    have h0 : (R.map nameA).length = 0 := by rw [z]; rfl
    rw [List.length_map] at h0
    omega
  have i1 : atI (R.map nameA) ((k : Int) + 1) = some (nameA R[k + 1]) := by
    rw [show ((k : Int) + 1) = ((k + 1 : Nat) : Int) by omega, at_nat (by rw [List.length_map]; omega)]
    simp
  have i2 : atI (R.map nameA) (k : Int) = some (nameA R[k]) := by
    rw [at_nat (by rw [List.length_map]; omega)]
    simp
  try simp -implicitDefEqProofs only [w_enumT, v_enumC, v_enumT, v_seqC, v_lenC, v_listC, v_listRL, w_keys, List.map_cons, List.map_nil, List.cons_append, List.nil_append, List.replicate, List.set_cons_succ, List.set_cons_zero, wipeG, wpS_then, wpS_set, wpS_if, wpS_mret, wpS_retN, wpS_mnext, wpS_mbrk, wpS_mcnt, wpS_exp, wpS_asg, wpS_for, w_c, w_bin, w_un, w_ifE, w_andV, w_orV, w_notV, w_call, w_chain, w_meth, w_meth0, w_sl, w_noPart, w_part, w_nil, w_cons, w_bl, w_tru, w_and, w_or, w_not, w_lcV, w_lcR, w_lc, w_seq, w_rng1, w_rng2, w_var0, w_var1, w_var2, w_var3, w_var4, w_var5, w_var6, w_var7, w_var8, w_var9, w_var10, w_var11, w_var12, w_var13, w_var14, w_var15, w_var16, w_var17, w_var18, w_var19, w_var20, w_dictT, w_dictK, w_gTp, wpS_par, wpS_par3, w_zip, w_enum, w_rev, v_zipL, v_zipT, v_enumL, v_revL, v_revT, w_gsCons, w_gsNil, w_callK, wpR_ok, wpR_sized, v_nm, v_addI, v_addS, v_addT, v_addL, v_sub, v_neg, w_mul, w_div, w_mod, w_pow, v_ordI, v_eqI, v_neI, v_eqS, v_neS, v_lenS, v_lenL, v_lenF, v_lenT, v_truB, v_seqS, v_seqT, v_seqL, v_seqF, v_listT, v_listL, v_tupleL, v_tupleT, v_tupD, v_lstD, v_lstR, v_slT, v_slL, v_slF, w_slS, defD_rt, defD_nx, defD_ex, defD_bk, defD_ct, AV.bl.injEq, AV.int.injEq, Option.some.injEq, exists_eq_left', tyS, if_true, if_false, Bool.false_eq_true, true_and, and_true, e1, e2, r_ix ha, i1, i2]
  refine ⟨by simp, by simp; omega, by simp; omega, ?_⟩
  rw [swp_eq R k R[k] R[k + 1] (List.getElem?_eq_getElem (by omega)) (List.getElem?_eq_getElem (by omega))]
  simp
theorem pure_ex {n j : Nat} {b : SM} {as : List AV} {Q : AV → Prop} (hl : as.length = n) (h : wpS (b (as.map some ++ List.replicate j none) M) (defD (fun x M' => M' = M ∧ Q x) fun _ _ _ => False)) : ∃ v, gc (mDef n j b) as M = .ok v M ∧ Q v := by
  have h2 := wp_def (P := fun x M' => M' = M ∧ Q x) hl h
  cases e : mDef n j b as M with
  | ok v M' =>
    rw [e] at h2
    obtain ⟨h3, h4⟩ := h2
    subst h3
    exact ⟨v, gc_same e, h4⟩
  | exc c fs M' => rw [e] at h2; exact h2.elim
  | stuck => rw [e] at h2; exact h2.elim
theorem q_firstU {rest : List AV} {i : Nat} {B R : List Nm} (hM : Fs rest [] M) (hx : rest[i]? = some (.dT (plK B))) (ha : RowA a (R.map nameA)) (hs : ∀ n ∈ R, n ∈ B) (hl : R.length ≤ 1000) :
    ∃ v, m_firstU [a, .ref (i + 1)] M = .ok v M ∧ ((∃ k, Desc (plc B) R k ∧ v = .int (k : Nat)) ∨ ((∀ k, ¬ Desc (plc B) R k) ∧ v = .non)) := by
  refine pure_ex rfl ?_
  unfold firstU_b
  have gt : ∀ n ∈ R, gIx (.ref (i + 1)) (nameA n) M = .ok (.int (plc B n : Nat)) M := fun n hn => f_ixT hM hx (keyT_name n) (plK_get (hs n hn))
  refine wp_seq (fun G M' => M' = M ∧ ∀ k, ¬ Desc (plc B) R k) ?_ ?_
  · rw [wpS_for]
    try simp -implicitDefEqProofs only [w_enumT, v_enumC, v_enumT, v_seqC, v_lenC, v_listC, v_listRL, w_keys, List.map_cons, List.map_nil, List.cons_append, List.nil_append, List.replicate, List.set_cons_succ, List.set_cons_zero, wipeG, wpS_then, wpS_set, wpS_if, wpS_mret, wpS_retN, wpS_mnext, wpS_mbrk, wpS_mcnt, wpS_exp, wpS_asg, wpS_for, w_c, w_bin, w_un, w_ifE, w_andV, w_orV, w_notV, w_call, w_chain, w_meth, w_meth0, w_sl, w_noPart, w_part, w_nil, w_cons, w_bl, w_tru, w_and, w_or, w_not, w_lcV, w_lcR, w_lc, w_seq, w_rng1, w_rng2, w_var0, w_var1, w_var2, w_var3, w_var4, w_var5, w_var6, w_var7, w_var8, w_var9, w_var10, w_var11, w_var12, w_var13, w_var14, w_var15, w_var16, w_var17, w_var18, w_var19, w_var20, w_dictT, w_dictK, w_gTp, wpS_par, wpS_par3, w_zip, w_enum, w_rev, v_zipL, v_zipT, v_enumL, v_revL, v_revT, w_gsCons, w_gsNil, w_callK, wpR_ok, wpR_sized, v_nm, v_addI, v_addS, v_addT, v_addL, v_sub, v_neg, w_mul, w_div, w_mod, w_pow, v_ordI, v_eqI, v_neI, v_eqS, v_neS, v_lenS, v_lenL, v_lenF, v_lenT, v_truB, v_seqS, v_seqT, v_seqL, v_seqF, v_listT, v_listL, v_tupleL, v_tupleT, v_tupD, v_lstD, v_lstR, v_slT, v_slL, v_slF, w_slS, defD_rt, defD_nx, defD_ex, defD_bk, defD_ct, AV.bl.injEq, AV.int.injEq, Option.some.injEq, exists_eq_left', tyS, if_true, if_false, Bool.false_eq_true, true_and, and_true, r_len ha]
    rw [w_gRng1 (by unfold rngOk; simp; omega)]
    refine wp_loop (fun k G M' => M' = M ∧ (∃ g2, G = [some a, some (.ref (i + 1)), g2]) ∧ ∀ j, j < k → ¬ Desc (plc B) R j) _ 0 _ _ ⟨rfl, ⟨_, rfl⟩, fun j hj => absurd hj (by omega)⟩ ?_ ?_
    · rintro j x G M' hj ⟨rfl, ⟨g2, rfl⟩, hno⟩
      have hj2 : j < R.length - 1 := by
        have := (List.getElem?_eq_some_iff.mp hj).1
        rw [rng_len, List.length_map] at this
        omega
      have ex : x = .int (j : Nat) := by rw [rng_get hj]; simp
      subst ex
      have i1 : atI (R.map nameA) ((j : Int) + 1) = some (nameA R[j + 1]) := by
        rw [show ((j : Int) + 1) = ((j + 1 : Nat) : Int) by omega, at_nat (by rw [List.length_map]; omega)]
        simp
      have i2 : atI (R.map nameA) (j : Int) = some (nameA R[j]) := by
        rw [at_nat (by rw [List.length_map]; omega)]
        simp
      try simp -implicitDefEqProofs only [w_enumT, v_enumC, v_enumT, v_seqC, v_lenC, v_listC, v_listRL, w_keys, List.map_cons, List.map_nil, List.cons_append, List.nil_append, List.replicate, List.set_cons_succ, List.set_cons_zero, wipeG, wpS_then, wpS_set, wpS_if, wpS_mret, wpS_retN, wpS_mnext, wpS_mbrk, wpS_mcnt, wpS_exp, wpS_asg, wpS_for, w_c, w_bin, w_un, w_ifE, w_andV, w_orV, w_notV, w_call, w_chain, w_meth, w_meth0, w_sl, w_noPart, w_part, w_nil, w_cons, w_bl, w_tru, w_and, w_or, w_not, w_lcV, w_lcR, w_lc, w_seq, w_rng1, w_rng2, w_var0, w_var1, w_var2, w_var3, w_var4, w_var5, w_var6, w_var7, w_var8, w_var9, w_var10, w_var11, w_var12, w_var13, w_var14, w_var15, w_var16, w_var17, w_var18, w_var19, w_var20, w_dictT, w_dictK, w_gTp, wpS_par, wpS_par3, w_zip, w_enum, w_rev, v_zipL, v_zipT, v_enumL, v_revL, v_revT, w_gsCons, w_gsNil, w_callK, wpR_ok, wpR_sized, v_nm, v_addI, v_addS, v_addT, v_addL, v_sub, v_neg, w_mul, w_div, w_mod, w_pow, v_ordI, v_eqI, v_neI, v_eqS, v_neS, v_lenS, v_lenL, v_lenF, v_lenT, v_truB, v_seqS, v_seqT, v_seqL, v_seqF, v_listT, v_listL, v_tupleL, v_tupleT, v_tupD, v_lstD, v_lstR, v_slT, v_slL, v_slF, w_slS, defD_rt, defD_nx, defD_ex, defD_bk, defD_ct, AV.bl.injEq, AV.int.injEq, Option.some.injEq, exists_eq_left', tyS, if_true, if_false, Bool.false_eq_true, true_and, and_true, r_ix ha, i1, i2, gt R[j] (List.getElem_mem _), gt R[j + 1] (List.getElem_mem _)]
      split
      · rename_i hd
        have hd : (plc B R[j + 1] : Int) < plc B R[j] := of_decide_eq_true hd
        exact .inl ⟨j, ⟨_, _, List.getElem?_eq_getElem (by omega), List.getElem?_eq_getElem (by omega), by omega⟩, rfl⟩
      · rename_i hd
        refine ⟨⟨_, rfl⟩, fun m hm => ?_⟩
        by_cases e : m = j
        · subst e
          rintro ⟨x, y, h1, h2, h3⟩
          rw [List.getElem?_eq_getElem (by omega)] at h1 h2
          rw [← Option.some.inj h1, ← Option.some.inj h2] at h3
          exact hd (decide_eq_true (by omega))
        · exact hno m (by omega)
    · rintro G M' ⟨rfl, _, hno⟩
      rw [rng_len, List.length_map, Nat.zero_add] at hno
      refine ⟨rfl, fun k hk => ?_⟩
      obtain ⟨x, y, h1, h2, h3⟩ := id hk
      have := (List.getElem?_eq_some_iff.mp h2).1
      exact hno k (by omega) hk
  rintro G M' ⟨rfl, hno⟩
  try simp -implicitDefEqProofs only [w_enumT, v_enumC, v_enumT, v_seqC, v_lenC, v_listC, v_listRL, w_keys, List.map_cons, List.map_nil, List.cons_append, List.nil_append, List.replicate, List.set_cons_succ, List.set_cons_zero, wipeG, wpS_then, wpS_set, wpS_if, wpS_mret, wpS_retN, wpS_mnext, wpS_mbrk, wpS_mcnt, wpS_exp, wpS_asg, wpS_for, w_c, w_bin, w_un, w_ifE, w_andV, w_orV, w_notV, w_call, w_chain, w_meth, w_meth0, w_sl, w_noPart, w_part, w_nil, w_cons, w_bl, w_tru, w_and, w_or, w_not, w_lcV, w_lcR, w_lc, w_seq, w_rng1, w_rng2, w_var0, w_var1, w_var2, w_var3, w_var4, w_var5, w_var6, w_var7, w_var8, w_var9, w_var10, w_var11, w_var12, w_var13, w_var14, w_var15, w_var16, w_var17, w_var18, w_var19, w_var20, w_dictT, w_dictK, w_gTp, wpS_par, wpS_par3, w_zip, w_enum, w_rev, v_zipL, v_zipT, v_enumL, v_revL, v_revT, w_gsCons, w_gsNil, w_callK, wpR_ok, wpR_sized, v_nm, v_addI, v_addS, v_addT, v_addL, v_sub, v_neg, w_mul, w_div, w_mod, w_pow, v_ordI, v_eqI, v_neI, v_eqS, v_neS, v_lenS, v_lenL, v_lenF, v_lenT, v_truB, v_seqS, v_seqT, v_seqL, v_seqF, v_listT, v_listL, v_tupleL, v_tupleT, v_tupD, v_lstD, v_lstR, v_slT, v_slL, v_slF, w_slS, defD_rt, defD_nx, defD_ex, defD_bk, defD_ct, AV.bl.injEq, AV.int.injEq, Option.some.injEq, exists_eq_left', tyS, if_true, if_false, Bool.false_eq_true, true_and, and_true]
  exact .inr hno
theorem enum_get {ys : List AV} {j : Nat} {x : AV} (h : (enumA ys)[j]? = some x) : ∃ y, ys[j]? = some y ∧ x = .tup [.int (j : Nat), y] := by
  unfold enumA at h
  rw [List.getElem?_mapIdx] at h
  cases e : ys[j]? with
  | none => rw [e] at h; cases h
  | some y => rw [e] at h; exact ⟨y, rfl, (Option.some.inj h).symm⟩
abbrev ksA (ks : List Nat) : List AV := ks.map fun k => .int (k : Nat)
theorem d_paper {rest : List AV} {led : AV} {A B : List Nm} (hM : Fs rest [] M) (ha : RowA a (A.map nameA)) (hc : RowA c (B.map nameA)) (hp : A.Perm B) (hnd : B.Nodup) (hl : B.length ≤ 20)
    (q : ∀ ks M', Walk (plc B) A ks B → Fs rest [] M' → P (.tup (ksA ks)) M') : wpR (m_paper [led, a, c] M) P E := by
  refine wp_gcF hM ?_
  refine wp_def rfl ?_
  unfold paper_b
  have hAl : A.length = B.length := hp.length_eq
  refine wp_seq (fun G M => G = [some led, some a, some c, some (.ref (rest.length + 1)), none, none, none, none, none] ∧ Fs (rest ++ [.dT (plK [])]) [] M) ?_ ?_
  · try simp -implicitDefEqProofs only [w_enumT, v_enumC, v_enumT, v_seqC, v_lenC, v_listC, v_listRL, w_keys, List.map_cons, List.map_nil, List.cons_append, List.nil_append, List.replicate, List.set_cons_succ, List.set_cons_zero, wipeG, wpS_then, wpS_set, wpS_if, wpS_mret, wpS_retN, wpS_mnext, wpS_mbrk, wpS_mcnt, wpS_exp, wpS_asg, wpS_for, w_c, w_bin, w_un, w_ifE, w_andV, w_orV, w_notV, w_call, w_chain, w_meth, w_meth0, w_sl, w_noPart, w_part, w_nil, w_cons, w_bl, w_tru, w_and, w_or, w_not, w_lcV, w_lcR, w_lc, w_seq, w_rng1, w_rng2, w_var0, w_var1, w_var2, w_var3, w_var4, w_var5, w_var6, w_var7, w_var8, w_var9, w_var10, w_var11, w_var12, w_var13, w_var14, w_var15, w_var16, w_var17, w_var18, w_var19, w_var20, w_dictT, w_dictK, w_gTp, wpS_par, wpS_par3, w_zip, w_enum, w_rev, v_zipL, v_zipT, v_enumL, v_revL, v_revT, w_gsCons, w_gsNil, w_callK, wpR_ok, wpR_sized, v_nm, v_addI, v_addS, v_addT, v_addL, v_sub, v_neg, w_mul, w_div, w_mod, w_pow, v_ordI, v_eqI, v_neI, v_eqS, v_neS, v_lenS, v_lenL, v_lenF, v_lenT, v_truB, v_seqS, v_seqT, v_seqL, v_seqF, v_listT, v_listL, v_tupleL, v_tupleT, v_tupD, v_lstD, v_lstR, v_slT, v_slL, v_slF, w_slS, defD_rt, defD_nx, defD_ex, defD_bk, defD_ct, AV.bl.injEq, AV.int.injEq, Option.some.injEq, exists_eq_left', tyS, if_true, if_false, Bool.false_eq_true, true_and, and_true]
    rw [hM.len]
    exact ⟨rfl, hM.push _⟩
  rintro _ M ⟨rfl, hM⟩
  refine wp_seq (fun G M => (∃ g4 g5, G = [some led, some a, some c, some (.ref (rest.length + 1)), g4, g5, none, none, none]) ∧ Fs (rest ++ [.dT (plK B)]) [] M) ?_ ?_
  · rw [wpS_for]
    try simp -implicitDefEqProofs only [w_enumT, v_enumC, v_enumT, v_seqC, v_lenC, v_listC, v_listRL, w_keys, List.map_cons, List.map_nil, List.cons_append, List.nil_append, List.replicate, List.set_cons_succ, List.set_cons_zero, wipeG, wpS_then, wpS_set, wpS_if, wpS_mret, wpS_retN, wpS_mnext, wpS_mbrk, wpS_mcnt, wpS_exp, wpS_asg, wpS_for, w_c, w_bin, w_un, w_ifE, w_andV, w_orV, w_notV, w_call, w_chain, w_meth, w_meth0, w_sl, w_noPart, w_part, w_nil, w_cons, w_bl, w_tru, w_and, w_or, w_not, w_lcV, w_lcR, w_lc, w_seq, w_rng1, w_rng2, w_var0, w_var1, w_var2, w_var3, w_var4, w_var5, w_var6, w_var7, w_var8, w_var9, w_var10, w_var11, w_var12, w_var13, w_var14, w_var15, w_var16, w_var17, w_var18, w_var19, w_var20, w_dictT, w_dictK, w_gTp, wpS_par, wpS_par3, w_zip, w_enum, w_rev, v_zipL, v_zipT, v_enumL, v_revL, v_revT, w_gsCons, w_gsNil, w_callK, wpR_ok, wpR_sized, v_nm, v_addI, v_addS, v_addT, v_addL, v_sub, v_neg, w_mul, w_div, w_mod, w_pow, v_ordI, v_eqI, v_neI, v_eqS, v_neS, v_lenS, v_lenL, v_lenF, v_lenT, v_truB, v_seqS, v_seqT, v_seqL, v_seqF, v_listT, v_listL, v_tupleL, v_tupleT, v_tupD, v_lstD, v_lstR, v_slT, v_slL, v_slF, w_slS, defD_rt, defD_nx, defD_ex, defD_bk, defD_ct, AV.bl.injEq, AV.int.injEq, Option.some.injEq, exists_eq_left', tyS, if_true, if_false, Bool.false_eq_true, true_and, and_true, r_enum hc]
    refine wp_loop (fun k G M => (∃ g4 g5, G = [some led, some a, some c, some (.ref (rest.length + 1)), g4, g5, none, none, none]) ∧ Fs (rest ++ [.dT (plK (B.take k))]) [] M) _ 0 _ _ ⟨⟨_, _, rfl⟩, hM⟩ ?_ ?_
    · rintro j x G M hj ⟨⟨g4, g5, rfl⟩, hF⟩
      obtain ⟨y, hy, rfl⟩ := enum_get hj
      rw [List.getElem?_map] at hy
      cases e : B[j]? with
      | none => rw [e] at hy; cases hy
      | some n =>
        rw [e] at hy
        have ey : y = nameA n := (Option.some.inj hy).symm
        subst ey
        have hjl := (List.getElem?_eq_some_iff.mp e).1
        have et : B.take (0 + j + 1) = B.take (0 + j) ++ [n] := by
          rw [Nat.zero_add, List.take_add_one, e]
          rfl
        have hnt : n ∉ B.take (0 + j) := fun z => by
          have h1 := hnd
          rw [← List.take_append_drop (0 + j + 1) B, et, List.nodup_append] at h1
          have h2 := List.nodup_append.mp h1.1
          exact h2.2.2 n z n (by simp) rfl
        have hlen : (B.take (0 + j)).length = j := by
          rw [List.length_take]
          omega
        try simp -implicitDefEqProofs only [w_enumT, v_enumC, v_enumT, v_seqC, v_lenC, v_listC, v_listRL, w_keys, List.map_cons, List.map_nil, List.cons_append, List.nil_append, List.replicate, List.set_cons_succ, List.set_cons_zero, wipeG, wpS_then, wpS_set, wpS_if, wpS_mret, wpS_retN, wpS_mnext, wpS_mbrk, wpS_mcnt, wpS_exp, wpS_asg, wpS_for, w_c, w_bin, w_un, w_ifE, w_andV, w_orV, w_notV, w_call, w_chain, w_meth, w_meth0, w_sl, w_noPart, w_part, w_nil, w_cons, w_bl, w_tru, w_and, w_or, w_not, w_lcV, w_lcR, w_lc, w_seq, w_rng1, w_rng2, w_var0, w_var1, w_var2, w_var3, w_var4, w_var5, w_var6, w_var7, w_var8, w_var9, w_var10, w_var11, w_var12, w_var13, w_var14, w_var15, w_var16, w_var17, w_var18, w_var19, w_var20, w_dictT, w_dictK, w_gTp, wpS_par, wpS_par3, w_zip, w_enum, w_rev, v_zipL, v_zipT, v_enumL, v_revL, v_revT, w_gsCons, w_gsNil, w_callK, wpR_ok, wpR_sized, v_nm, v_addI, v_addS, v_addT, v_addL, v_sub, v_neg, w_mul, w_div, w_mod, w_pow, v_ordI, v_eqI, v_neI, v_eqS, v_neS, v_lenS, v_lenL, v_lenF, v_lenT, v_truB, v_seqS, v_seqT, v_seqL, v_seqF, v_listT, v_listL, v_tupleL, v_tupleT, v_tupD, v_lstD, v_lstR, v_slT, v_slL, v_slF, w_slS, defD_rt, defD_nx, defD_ex, defD_bk, defD_ct, AV.bl.injEq, AV.int.injEq, Option.some.injEq, exists_eq_left', tyS, if_true, if_false, Bool.false_eq_true, true_and, and_true]
        refine ⟨rfl, ?_⟩
        refine f_putT (kvs := plK (B.take (0 + j))) (i := rest.length) hF (by simp) (by rw [plK_len]; omega) rfl rfl (keyT_name n) fun M' h' => ?_
        have ep := plK_snoc hnt
        rw [hlen] at ep
        rw [ep] at h'
        rw [et]
        refine ⟨⟨_, _, rfl⟩, ?_⟩
        simpa using h'
    · rintro G M ⟨hG, hF⟩
      have hlen : (enumA (B.map nameA)).length = B.length := by simp [enumA]
      rw [Nat.zero_add, hlen, List.take_length] at hF
      exact ⟨hG, hF⟩
  rintro _ M ⟨⟨g4, g5, rfl⟩, hM⟩
  refine wp_seq (fun G M => G = [some led, some a, some c, some (.ref (rest.length + 1)), g4, g5, some a, none, none] ∧ Fs (rest ++ [.dT (plK B)]) [] M) ?_ ?_
  · try simp -implicitDefEqProofs only [w_enumT, v_enumC, v_enumT, v_seqC, v_lenC, v_listC, v_listRL, w_keys, List.map_cons, List.map_nil, List.cons_append, List.nil_append, List.replicate, List.set_cons_succ, List.set_cons_zero, wipeG, wpS_then, wpS_set, wpS_if, wpS_mret, wpS_retN, wpS_mnext, wpS_mbrk, wpS_mcnt, wpS_exp, wpS_asg, wpS_for, w_c, w_bin, w_un, w_ifE, w_andV, w_orV, w_notV, w_call, w_chain, w_meth, w_meth0, w_sl, w_noPart, w_part, w_nil, w_cons, w_bl, w_tru, w_and, w_or, w_not, w_lcV, w_lcR, w_lc, w_seq, w_rng1, w_rng2, w_var0, w_var1, w_var2, w_var3, w_var4, w_var5, w_var6, w_var7, w_var8, w_var9, w_var10, w_var11, w_var12, w_var13, w_var14, w_var15, w_var16, w_var17, w_var18, w_var19, w_var20, w_dictT, w_dictK, w_gTp, wpS_par, wpS_par3, w_zip, w_enum, w_rev, v_zipL, v_zipT, v_enumL, v_revL, v_revT, w_gsCons, w_gsNil, w_callK, wpR_ok, wpR_sized, v_nm, v_addI, v_addS, v_addT, v_addL, v_sub, v_neg, w_mul, w_div, w_mod, w_pow, v_ordI, v_eqI, v_neI, v_eqS, v_neS, v_lenS, v_lenL, v_lenF, v_lenT, v_truB, v_seqS, v_seqT, v_seqL, v_seqF, v_listT, v_listL, v_tupleL, v_tupleT, v_tupD, v_lstD, v_lstR, v_slT, v_slL, v_slF, w_slS, defD_rt, defD_nx, defD_ex, defD_bk, defD_ct, AV.bl.injEq, AV.int.injEq, Option.some.injEq, exists_eq_left', tyS, if_true, if_false, Bool.false_eq_true, true_and, and_true]
    first | exact ⟨rfl, hM⟩ | exact hM
  rintro _ M ⟨rfl, hM⟩
  refine wp_seq (fun G M => G = [some led, some a, some c, some (.ref (rest.length + 1)), g4, g5, some a, some (.ref (rest.length + 2)), none] ∧ Fs (rest ++ [.dT (plK B), .lst (ksA [])]) [] M) ?_ ?_
  · try simp -implicitDefEqProofs only [w_enumT, v_enumC, v_enumT, v_seqC, v_lenC, v_listC, v_listRL, w_keys, List.map_cons, List.map_nil, List.cons_append, List.nil_append, List.replicate, List.set_cons_succ, List.set_cons_zero, wipeG, wpS_then, wpS_set, wpS_if, wpS_mret, wpS_retN, wpS_mnext, wpS_mbrk, wpS_mcnt, wpS_exp, wpS_asg, wpS_for, w_c, w_bin, w_un, w_ifE, w_andV, w_orV, w_notV, w_call, w_chain, w_meth, w_meth0, w_sl, w_noPart, w_part, w_nil, w_cons, w_bl, w_tru, w_and, w_or, w_not, w_lcV, w_lcR, w_lc, w_seq, w_rng1, w_rng2, w_var0, w_var1, w_var2, w_var3, w_var4, w_var5, w_var6, w_var7, w_var8, w_var9, w_var10, w_var11, w_var12, w_var13, w_var14, w_var15, w_var16, w_var17, w_var18, w_var19, w_var20, w_dictT, w_dictK, w_gTp, wpS_par, wpS_par3, w_zip, w_enum, w_rev, v_zipL, v_zipT, v_enumL, v_revL, v_revT, w_gsCons, w_gsNil, w_callK, wpR_ok, wpR_sized, v_nm, v_addI, v_addS, v_addT, v_addL, v_sub, v_neg, w_mul, w_div, w_mod, w_pow, v_ordI, v_eqI, v_neI, v_eqS, v_neS, v_lenS, v_lenL, v_lenF, v_lenT, v_truB, v_seqS, v_seqT, v_seqL, v_seqF, v_listT, v_listL, v_tupleL, v_tupleT, v_tupD, v_lstD, v_lstR, v_slT, v_slL, v_slF, w_slS, defD_rt, defD_nx, defD_ex, defD_bk, defD_ct, AV.bl.injEq, AV.int.injEq, Option.some.injEq, exists_eq_left', tyS, if_true, if_false, Bool.false_eq_true, true_and, and_true]
    have hlen := hM.len
    rw [List.length_append] at hlen
    rw [hlen]
    have h2 := hM.push (.lst [])
    rw [List.append_assoc] at h2
    exact ⟨by simp, rfl, h2⟩
  rintro _ M ⟨rfl, hM⟩
  have gP : ∀ ks : List AV, (rest ++ [AV.dT (plK B), .lst ks])[rest.length]? = some (.dT (plK B)) := fun ks => by simp [List.getElem?_append]
  have gL : ∀ ks : List AV, (rest ++ [AV.dT (plK B), .lst ks])[rest.length + 1]? = some (.lst ks) := fun ks => by simp [List.getElem?_append]
  have sub : ∀ {xs : List Nm}, A.Perm xs → (∀ n ∈ xs, n ∈ B) ∧ xs.length = B.length := fun h => ⟨fun n hn => hp.mem_iff.mp (h.mem_iff.mpr hn), by rw [← h.length_eq, hAl]⟩
  refine wp_seq (fun G M => ∃ v, G = [some led, some a, some c, some (.ref (rest.length + 1)), g4, g5, some a, some (.ref (rest.length + 2)), some v] ∧ Fs (rest ++ [.dT (plK B), .lst (ksA [])]) [] M ∧ ((∃ k, Desc (plc B) A k ∧ v = .int (k : Nat)) ∨ ((∀ k, ¬ Desc (plc B) A k) ∧ v = .non))) ?_ ?_
  · obtain ⟨v, e1, e2⟩ := q_firstU (a := a) (R := A) (i := rest.length) hM (gP _) ha (sub (.refl _)).1 (by omega)
    try simp -implicitDefEqProofs only [w_enumT, v_enumC, v_enumT, v_seqC, v_lenC, v_listC, v_listRL, w_keys, List.map_cons, List.map_nil, List.cons_append, List.nil_append, List.replicate, List.set_cons_succ, List.set_cons_zero, wipeG, wpS_then, wpS_set, wpS_if, wpS_mret, wpS_retN, wpS_mnext, wpS_mbrk, wpS_mcnt, wpS_exp, wpS_asg, wpS_for, w_c, w_bin, w_un, w_ifE, w_andV, w_orV, w_notV, w_call, w_chain, w_meth, w_meth0, w_sl, w_noPart, w_part, w_nil, w_cons, w_bl, w_tru, w_and, w_or, w_not, w_lcV, w_lcR, w_lc, w_seq, w_rng1, w_rng2, w_var0, w_var1, w_var2, w_var3, w_var4, w_var5, w_var6, w_var7, w_var8, w_var9, w_var10, w_var11, w_var12, w_var13, w_var14, w_var15, w_var16, w_var17, w_var18, w_var19, w_var20, w_dictT, w_dictK, w_gTp, wpS_par, wpS_par3, w_zip, w_enum, w_rev, v_zipL, v_zipT, v_enumL, v_revL, v_revT, w_gsCons, w_gsNil, w_callK, wpR_ok, wpR_sized, v_nm, v_addI, v_addS, v_addT, v_addL, v_sub, v_neg, w_mul, w_div, w_mod, w_pow, v_ordI, v_eqI, v_neI, v_eqS, v_neS, v_lenS, v_lenL, v_lenF, v_lenT, v_truB, v_seqS, v_seqT, v_seqL, v_seqF, v_listT, v_listL, v_tupleL, v_tupleT, v_tupD, v_lstD, v_lstR, v_slT, v_slL, v_slF, w_slS, defD_rt, defD_nx, defD_ex, defD_bk, defD_ct, AV.bl.injEq, AV.int.injEq, Option.some.injEq, exists_eq_left', tyS, if_true, if_false, Bool.false_eq_true, true_and, and_true, e1]
    exact ⟨v, rfl, hM, e2⟩
  rintro _ M ⟨v, rfl, hM, hv⟩
  refine wp_seq (fun G M => ∃ ks g6 g8, Walk (plc B) A ks B ∧ G = [some led, some a, some c, some (.ref (rest.length + 1)), g4, g5, g6, some (.ref (rest.length + 2)), g8] ∧ Fs (rest ++ [.dT (plK B), .lst (ksA ks)]) [] M) ?_ ?_
  · have hin := inv_le (p := plc B) A
    have hin2 : A.length * A.length ≤ 20 * 20 := Nat.mul_le_mul (by omega) (by omega)
    refine wp_while (fun m G M => ∃ (ks : List Nat) (xs : List Nm) (r v : AV), Walk (plc B) A ks xs ∧ m = inv (plc B) xs ∧ RowA r (xs.map nameA) ∧ G = [some led, some a, some c, some (.ref (rest.length + 1)), g4, g5, some r, some (.ref (rest.length + 2)), some v] ∧ Fs (rest ++ [.dT (plK B), .lst (ksA ks)]) [] M ∧ ((∃ k, Desc (plc B) xs k ∧ v = .int (k : Nat)) ∨ ((∀ k, ¬ Desc (plc B) xs k) ∧ v = .non))) ?_ 1000000 (inv (plc B) A) _ _ (by omega) ⟨[], A, a, v, rfl, rfl, ha, rfl, hM, hv⟩
    rintro m G M ⟨ks, xs, r, v, hW, rfl, hr, rfl, hM, hv⟩
    obtain ⟨hmem, hxl⟩ := sub hW.perm
    rcases hv with ⟨k, hd, rfl⟩ | ⟨hno, rfl⟩
    · have hk : k + 1 < xs.length := by
        obtain ⟨_, _, _, h2, _⟩ := hd
        exact (List.getElem?_eq_some_iff.mp h2).1
      have hi := inv_swp hd
      have hks : ks.length ≤ 400 := by
        have := hW.inv_
        omega
      have hnn : gNotN (.int (k : Nat)) .non M = .ok (.bl true) M := rfl
      try simp -implicitDefEqProofs only [w_enumT, v_enumC, v_enumT, v_seqC, v_lenC, v_listC, v_listRL, w_keys, List.map_cons, List.map_nil, List.cons_append, List.nil_append, List.replicate, List.set_cons_succ, List.set_cons_zero, wipeG, wpS_then, wpS_set, wpS_if, wpS_mret, wpS_retN, wpS_mnext, wpS_mbrk, wpS_mcnt, wpS_exp, wpS_asg, wpS_for, w_c, w_bin, w_un, w_ifE, w_andV, w_orV, w_notV, w_call, w_chain, w_meth, w_meth0, w_sl, w_noPart, w_part, w_nil, w_cons, w_bl, w_tru, w_and, w_or, w_not, w_lcV, w_lcR, w_lc, w_seq, w_rng1, w_rng2, w_var0, w_var1, w_var2, w_var3, w_var4, w_var5, w_var6, w_var7, w_var8, w_var9, w_var10, w_var11, w_var12, w_var13, w_var14, w_var15, w_var16, w_var17, w_var18, w_var19, w_var20, w_dictT, w_dictK, w_gTp, wpS_par, wpS_par3, w_zip, w_enum, w_rev, v_zipL, v_zipT, v_enumL, v_revL, v_revT, w_gsCons, w_gsNil, w_callK, wpR_ok, wpR_sized, v_nm, v_addI, v_addS, v_addT, v_addL, v_sub, v_neg, w_mul, w_div, w_mod, w_pow, v_ordI, v_eqI, v_neI, v_eqS, v_neS, v_lenS, v_lenL, v_lenF, v_lenT, v_truB, v_seqS, v_seqT, v_seqL, v_seqF, v_listT, v_listL, v_tupleL, v_tupleT, v_tupD, v_lstD, v_lstR, v_slT, v_slL, v_slF, w_slS, defD_rt, defD_nx, defD_ex, defD_bk, defD_ct, AV.bl.injEq, AV.int.injEq, Option.some.injEq, exists_eq_left', tyS, if_true, if_false, Bool.false_eq_true, true_and, and_true, hnn]
      refine ⟨inv (plc B) (swp xs k), hi.symm, f_tyL hM (gL _), ?_⟩
      refine f_append hM (gL _) (by simp; omega) fun M1 h1 => ?_
      have es : (rest ++ [AV.dT (plK B), .lst (ksA ks)]).set (rest.length + 1) (.lst (ksA ks ++ [.int (k : Nat)])) = rest ++ [AV.dT (plK B), .lst (ksA (ks ++ [k]))] := by simp
      rw [es] at h1
      have hW2 := hW.snoc hd
      obtain ⟨hmem2, hxl2⟩ := sub hW2.perm
      obtain ⟨v, e1, e2⟩ := q_firstU (a := .tup ((swp xs k).map nameA)) (R := swp xs k) (i := rest.length) h1 (gP _) (.inl rfl) hmem2 (by omega)
      try simp -implicitDefEqProofs only [w_enumT, v_enumC, v_enumT, v_seqC, v_lenC, v_listC, v_listRL, w_keys, List.map_cons, List.map_nil, List.cons_append, List.nil_append, List.replicate, List.set_cons_succ, List.set_cons_zero, wipeG, wpS_then, wpS_set, wpS_if, wpS_mret, wpS_retN, wpS_mnext, wpS_mbrk, wpS_mcnt, wpS_exp, wpS_asg, wpS_for, w_c, w_bin, w_un, w_ifE, w_andV, w_orV, w_notV, w_call, w_chain, w_meth, w_meth0, w_sl, w_noPart, w_part, w_nil, w_cons, w_bl, w_tru, w_and, w_or, w_not, w_lcV, w_lcR, w_lc, w_seq, w_rng1, w_rng2, w_var0, w_var1, w_var2, w_var3, w_var4, w_var5, w_var6, w_var7, w_var8, w_var9, w_var10, w_var11, w_var12, w_var13, w_var14, w_var15, w_var16, w_var17, w_var18, w_var19, w_var20, w_dictT, w_dictK, w_gTp, wpS_par, wpS_par3, w_zip, w_enum, w_rev, v_zipL, v_zipT, v_enumL, v_revL, v_revT, w_gsCons, w_gsNil, w_callK, wpR_ok, wpR_sized, v_nm, v_addI, v_addS, v_addT, v_addL, v_sub, v_neg, w_mul, w_div, w_mod, w_pow, v_ordI, v_eqI, v_neI, v_eqS, v_neS, v_lenS, v_lenL, v_lenF, v_lenT, v_truB, v_seqS, v_seqT, v_seqL, v_seqF, v_listT, v_listL, v_tupleL, v_tupleT, v_tupD, v_lstD, v_lstR, v_slT, v_slL, v_slF, w_slS, defD_rt, defD_nx, defD_ex, defD_bk, defD_ct, AV.bl.injEq, AV.int.injEq, Option.some.injEq, exists_eq_left', tyS, if_true, if_false, Bool.false_eq_true, true_and, and_true, q_exch (M := M1) hr hk (by omega), e1]
      exact ⟨ks ++ [k], swp xs k, _, v, hW2, rfl, .inl rfl, rfl, h1, e2⟩
    · have hnn : gNotN .non .non M = .ok (.bl false) M := rfl
      have exs : xs = B := sorted_same hnd (hW.perm.symm.trans hp) hno
      try simp -implicitDefEqProofs only [w_enumT, v_enumC, v_enumT, v_seqC, v_lenC, v_listC, v_listRL, w_keys, List.map_cons, List.map_nil, List.cons_append, List.nil_append, List.replicate, List.set_cons_succ, List.set_cons_zero, wipeG, wpS_then, wpS_set, wpS_if, wpS_mret, wpS_retN, wpS_mnext, wpS_mbrk, wpS_mcnt, wpS_exp, wpS_asg, wpS_for, w_c, w_bin, w_un, w_ifE, w_andV, w_orV, w_notV, w_call, w_chain, w_meth, w_meth0, w_sl, w_noPart, w_part, w_nil, w_cons, w_bl, w_tru, w_and, w_or, w_not, w_lcV, w_lcR, w_lc, w_seq, w_rng1, w_rng2, w_var0, w_var1, w_var2, w_var3, w_var4, w_var5, w_var6, w_var7, w_var8, w_var9, w_var10, w_var11, w_var12, w_var13, w_var14, w_var15, w_var16, w_var17, w_var18, w_var19, w_var20, w_dictT, w_dictK, w_gTp, wpS_par, wpS_par3, w_zip, w_enum, w_rev, v_zipL, v_zipT, v_enumL, v_revL, v_revT, w_gsCons, w_gsNil, w_callK, wpR_ok, wpR_sized, v_nm, v_addI, v_addS, v_addT, v_addL, v_sub, v_neg, w_mul, w_div, w_mod, w_pow, v_ordI, v_eqI, v_neI, v_eqS, v_neS, v_lenS, v_lenL, v_lenF, v_lenT, v_truB, v_seqS, v_seqT, v_seqL, v_seqF, v_listT, v_listL, v_tupleL, v_tupleT, v_tupD, v_lstD, v_lstR, v_slT, v_slL, v_slF, w_slS, defD_rt, defD_nx, defD_ex, defD_bk, defD_ct, AV.bl.injEq, AV.int.injEq, Option.some.injEq, exists_eq_left', tyS, if_true, if_false, Bool.false_eq_true, true_and, and_true, hnn]
      subst exs
      exact ⟨ks, _, _, hW, rfl, hM⟩
  rintro _ M ⟨ks, g6, g8, hW, rfl, hM⟩
  have ht : gTuple [.ref (rest.length + 2)] M = .ok (.tup (ksA ks)) M := f_tuple (i := rest.length + 1) hM (gL _)
  try simp -implicitDefEqProofs only [w_enumT, v_enumC, v_enumT, v_seqC, v_lenC, v_listC, v_listRL, w_keys, List.map_cons, List.map_nil, List.cons_append, List.nil_append, List.replicate, List.set_cons_succ, List.set_cons_zero, wipeG, wpS_then, wpS_set, wpS_if, wpS_mret, wpS_retN, wpS_mnext, wpS_mbrk, wpS_mcnt, wpS_exp, wpS_asg, wpS_for, w_c, w_bin, w_un, w_ifE, w_andV, w_orV, w_notV, w_call, w_chain, w_meth, w_meth0, w_sl, w_noPart, w_part, w_nil, w_cons, w_bl, w_tru, w_and, w_or, w_not, w_lcV, w_lcR, w_lc, w_seq, w_rng1, w_rng2, w_var0, w_var1, w_var2, w_var3, w_var4, w_var5, w_var6, w_var7, w_var8, w_var9, w_var10, w_var11, w_var12, w_var13, w_var14, w_var15, w_var16, w_var17, w_var18, w_var19, w_var20, w_dictT, w_dictK, w_gTp, wpS_par, wpS_par3, w_zip, w_enum, w_rev, v_zipL, v_zipT, v_enumL, v_revL, v_revT, w_gsCons, w_gsNil, w_callK, wpR_ok, wpR_sized, v_nm, v_addI, v_addS, v_addT, v_addL, v_sub, v_neg, w_mul, w_div, w_mod, w_pow, v_ordI, v_eqI, v_neI, v_eqS, v_neS, v_lenS, v_lenL, v_lenF, v_lenT, v_truB, v_seqS, v_seqT, v_seqL, v_seqF, v_listT, v_listL, v_tupleL, v_tupleT, v_tupD, v_lstD, v_lstR, v_slT, v_slL, v_slF, w_slS, defD_rt, defD_nx, defD_ex, defD_bk, defD_ct, AV.bl.injEq, AV.int.injEq, Option.some.injEq, exists_eq_left', tyS, if_true, if_false, Bool.false_eq_true, true_and, and_true, ht]
  refine ⟨?_, hM.tmp, fun M'' h'' => q ks M'' hW h''⟩
  simp only [plain, List.all_map, List.all_eq_true]
  exact fun n _ => rfl
end
end Px

/-! Px19: roads drawn. -/
namespace Px
open PySem hiding Env plain
open L2 Mx StrLaws
theorem exists_least : ∀ {L : List Nm}, L ≠ [] → ∃ n ∈ L, ∀ m ∈ L, n.1 ≤ m.1
  | [], h => absurd rfl h
  | [a], _ => ⟨a, by simp, by simp⟩
  | a :: b :: r, _ => by
    obtain ⟨n, hn, hm⟩ := exists_least (L := b :: r) (by simp)
    by_cases h : a.1 ≤ n.1
    · refine ⟨a, by simp, fun m hm' => ?_⟩
      rcases List.mem_cons.mp hm' with z | z
      · rw [z]
        exact Int.le_refl _
      · exact Int.le_trans h (hm m z)
    · refine ⟨n, by simp [hn], fun m hm' => ?_⟩
      rcases List.mem_cons.mp hm' with z | z
      · rw [z]
        omega
      · exact hm m z
/-- those of which all that is known is laid -/
def readyN (w : List Rc) (Lf : List Nm) : List Nm := Lf.filter fun n => (knowsW w n).all fun x => decide (x ∉ Lf)
theorem ready_some {w : List Rc} {Lf : List Nm} (hw : WOk w) (hs : ∀ n ∈ Lf, n ∈ namesW w) (h : Lf ≠ []) : readyN w Lf ≠ [] := by
  obtain ⟨n, hn, hm⟩ := exists_least h
  have hin : n ∈ readyN w Lf := by
    refine List.mem_filter.mpr ⟨hn, ?_⟩
    rw [List.all_eq_true]
    intro x hx
    have hlt := ((hw.trans n (hs n hn)).1 x hx).2.1
    refine decide_eq_true fun z => ?_
    have := hm x z
    omega
  intro z
  rw [z] at hin
  cases hin
/-- what is laid so far -/
structure Lay (w : List Rc) (Lf Dn : List Nm) : Prop where
  nd : (Dn ++ Lf).Nodup
  mem : ∀ n, n ∈ Dn ++ Lf ↔ n ∈ namesW w
  ahead : ∀ u n v, Dn = u ++ n :: v → ∀ x ∈ knowsW w n, x ∈ u
theorem Lay.step {w : List Rc} {Lf Dn : List Nm} {n : Nm} (hw : WOk w) (h : Lay w Lf Dn) (hn : n ∈ readyN w Lf) : Lay w (Lf.eraseIdx (plc Lf n)) (Dn ++ [n]) ∧ (Lf.eraseIdx (plc Lf n)).length + 1 = Lf.length := by
  obtain ⟨h1, h2⟩ := List.mem_filter.mp hn
  obtain ⟨a, b, e⟩ := List.append_of_mem h1
  have hnd := h.nd
  have hna : n ∉ a := fun z => by
    rw [e] at hnd
    have := (List.nodup_append.mp hnd).2.1
    exact (List.nodup_append.mp this).2.2 n z n (by simp) rfl
  have e2 : Lf.eraseIdx (plc Lf n) = a ++ b := by
    rw [e, plc_app hna, List.eraseIdx_append_of_length_le (Nat.le_refl _)]
    simp
  have hp : (Dn ++ [n] ++ (a ++ b)).Perm (Dn ++ Lf) := by
    rw [e, List.append_assoc]
    exact List.Perm.append_left Dn (show ([n] ++ (a ++ b)).Perm (a ++ n :: b) by rw [List.singleton_append]; exact (List.perm_middle (a := n) (l₁ := a) (l₂ := b)).symm)
  rw [e2]
  refine ⟨⟨hp.nodup_iff.mpr hnd, fun m => hp.mem_iff.trans (h.mem m), fun u m v eq x hx => ?_⟩, by rw [e]; simp; omega⟩
  rcases List.eq_nil_or_concat v with z | ⟨v', y, z⟩
  · subst z
    have q := List.append_inj' eq rfl
    have em : n = m := by simpa using q.2
    rw [← q.1]
    rw [← em] at hx
    have hxw := ((hw.trans n ((h.mem n).mp (by simp [h1]))).1 x hx).1
    rw [List.all_eq_true] at h2
    have hxl := of_decide_eq_true (h2 x hx)
    rcases List.mem_append.mp ((h.mem x).mpr hxw) with g | g
    · exact g
    · exact absurd g hxl
  · subst z
    have q : Dn ++ [n] = (u ++ m :: v') ++ [y] := by rw [eq]; simp
    have q2 := List.append_inj' q rfl
    exact h.ahead u m v' q2.1 x hx
/-- a list written by a comprehension, by an invariant that counts -/
theorem wp_lclI {l0 : List AV} {t : TMt} {c : BM} {el : EM} {G : Env} {E : Str → List (Str × AV) → AH → Prop} (I : Nat → List AV → AH → Prop) {P : List AV → AH → Prop} :
    ∀ (items : List AV) (k : Nat) (acc : List AV) (M : AH), acc.length + items.length ≤ 16777216 → I k acc M →
    (∀ j a acc M, items[j]? = some a → I (k + j) acc M → wpR (t a G M) (fun G1 M1 => wpR (c G1 M1) (fun b M2 => if b = true then wpR (el G1 M2) (fun y M3 => I (k + j + 1) (acc ++ [y]) M3) fun _ _ _ => False else I (k + j + 1) acc M2) fun _ _ _ => False) fun _ _ _ => False) →
    (∀ acc' M', I (k + items.length) acc' M' → P acc' M') → wpR (lcl ⟨l0, none⟩ t c el G items acc M) P E
  | [], k, acc, M, hn, h, _, hp => by
    simp only [lcl_nil, wpR_ok]
    exact hp _ _ h
  | a :: r, k, acc, M, hn, h, hs, hp => by
    have h1 := hs 0 a acc M rfl h
    simp only [List.length_cons] at hn
    have ih := fun acc' M' (hl : acc'.length ≤ acc.length + 1) (hI : I (k + 1) acc' M') => wp_lclI (l0 := l0) (E := E) (P := P) (c := c) (t := t) (el := el) (G := G) I r (k + 1) acc' M' (by omega) hI (fun j b acc2 M2 hb hI2 => by
      have q := hs (j + 1) b acc2 M2 (by simpa using hb) (by rwa [show k + (j + 1) = k + 1 + j by omega])
      rwa [show k + (j + 1) = k + 1 + j by omega] at q) (fun acc2 M2 hI2 => hp _ _ (by rwa [List.length_cons, show k + (r.length + 1) = k + 1 + r.length by omega]))
    simp only [lcl_cons]
    cases q : t a G M with
    | ok G1 M1 =>
      rw [q] at h1
      simp only [wpR_ok] at h1
      cases q2 : c G1 M1 with
      | ok b M2 =>
        rw [q2] at h1
        simp only [wpR_ok] at h1
        by_cases hb : b = true
        · simp only [hb, if_true] at h1
          simp only [q2, hb, if_true]
          cases q3 : el G1 M2 with
          | ok y M3 =>
            rw [q3] at h1
            simp only [wpR_ok] at h1
            simp only [wpR_sized]
            refine ⟨by omega, ih _ _ (by simp) h1⟩
          | exc c fs M' => rw [q3] at h1; exact h1.elim
          | stuck => rw [q3] at h1; exact h1.elim
        · simp only [hb, if_false] at h1
          simp only [q2, hb, if_false]
          exact ih _ _ (by omega) h1
      | exc c fs M' => rw [q2] at h1; exact h1.elim
      | stuck => rw [q2] at h1; exact h1.elim
    | exc c fs M' => rw [q] at h1; exact h1.elim
    | stuck => rw [q] at h1; exact h1.elim
theorem two_1 (R : List AV) (x y : AV) : (R ++ [x, y])[R.length]? = some x := by simp
theorem two_2 (R : List AV) (x y : AV) : (R ++ [x, y])[R.length + 1]? = some y := by simp [List.getElem?_append]
theorem two_s1 (R : List AV) (x y z : AV) : (R ++ [x, y]).set R.length z = R ++ [z, y] := by simp
theorem two_s2 (R : List AV) (x y z : AV) : (R ++ [x, y]).set (R.length + 1) z = R ++ [x, z] := by simp
section
variable {w : List Rc} {l : List (Str × Nm)} {h : List Nm} {tmp rest : List AV} {M : AH} {P : AV → AH → Prop} {E : Str → List (Str × AV) → AH → Prop}
theorem d_road {L : List Nm} (hM : Fs (wrest w l h ++ tmp) [] M) (hw : WOk w) (hl : w.length ≤ 20) (hnd : L.Nodup) (hL : ∀ n, n ∈ L ↔ n ∈ namesW w)
    (q : ∀ R M', Road w R → Fs (wrest w l h ++ tmp) [] M' → P (.tuc (R.map nameA)) M') : wpR (m_road [.ref 0, .ref 5, .lst (L.map nameA)] M) P E := by
  refine wp_gcF hM ?_
  have h0 : 0 ∉ ([] : List Nat) := by simp
  refine wp_def rfl ?_
  unfold road_b
  refine wp_seq (fun G M => G = [some (.ref 0), some (.ref 5), some (.lst (L.map nameA)), some (.ref ((wrest w l h ++ tmp).length + 1)), none, none, none, none, none] ∧ Fs (wrest w l h ++ tmp ++ [.lst (L.map nameA)]) [] M) ?_ ?_
  · try simp -implicitDefEqProofs only [w_enumT, v_enumC, v_enumT, v_seqC, v_lenC, v_listC, v_listRL, w_keys, List.map_cons, List.map_nil, List.cons_append, List.nil_append, List.replicate, List.set_cons_succ, List.set_cons_zero, wipeG, wpS_then, wpS_set, wpS_if, wpS_mret, wpS_retN, wpS_mnext, wpS_mbrk, wpS_mcnt, wpS_exp, wpS_asg, wpS_for, w_c, w_bin, w_un, w_ifE, w_andV, w_orV, w_notV, w_call, w_chain, w_meth, w_meth0, w_sl, w_noPart, w_part, w_nil, w_cons, w_bl, w_tru, w_and, w_or, w_not, w_lcV, w_lcR, w_lc, w_seq, w_rng1, w_rng2, w_var0, w_var1, w_var2, w_var3, w_var4, w_var5, w_var6, w_var7, w_var8, w_var9, w_var10, w_var11, w_var12, w_var13, w_var14, w_var15, w_var16, w_var17, w_var18, w_var19, w_var20, w_dictT, w_dictK, w_gTp, wpS_par, wpS_par3, w_zip, w_enum, w_rev, v_zipL, v_zipT, v_enumL, v_revL, v_revT, w_gsCons, w_gsNil, w_callK, wpR_ok, wpR_sized, v_nm, v_addI, v_addS, v_addT, v_addL, v_sub, v_neg, w_mul, w_div, w_mod, w_pow, v_ordI, v_eqI, v_neI, v_eqS, v_neS, v_lenS, v_lenL, v_lenF, v_lenT, v_truB, v_seqS, v_seqT, v_seqL, v_seqF, v_listT, v_listL, v_tupleL, v_tupleT, v_tupD, v_lstD, v_lstR, v_slT, v_slL, v_slF, w_slS, defD_rt, defD_nx, defD_ex, defD_bk, defD_ct, AV.bl.injEq, AV.int.injEq, Option.some.injEq, exists_eq_left', tyS, if_true, if_false, Bool.false_eq_true, true_and, and_true]
    rw [hM.len]
    exact ⟨rfl, hM.push _⟩
  rintro _ M ⟨rfl, hM⟩
  refine wp_seq (fun G M => G = [some (.ref 0), some (.ref 5), some (.lst (L.map nameA)), some (.ref ((wrest w l h ++ tmp).length + 1)), some (.ref ((wrest w l h ++ tmp).length + 2)), none, none, none, none] ∧ Fs (wrest w l h ++ tmp ++ [.lst (L.map nameA), .lst (([] : List Nm).map nameA)]) [] M) ?_ ?_
  · try simp -implicitDefEqProofs only [w_enumT, v_enumC, v_enumT, v_seqC, v_lenC, v_listC, v_listRL, w_keys, List.map_cons, List.map_nil, List.cons_append, List.nil_append, List.replicate, List.set_cons_succ, List.set_cons_zero, wipeG, wpS_then, wpS_set, wpS_if, wpS_mret, wpS_retN, wpS_mnext, wpS_mbrk, wpS_mcnt, wpS_exp, wpS_asg, wpS_for, w_c, w_bin, w_un, w_ifE, w_andV, w_orV, w_notV, w_call, w_chain, w_meth, w_meth0, w_sl, w_noPart, w_part, w_nil, w_cons, w_bl, w_tru, w_and, w_or, w_not, w_lcV, w_lcR, w_lc, w_seq, w_rng1, w_rng2, w_var0, w_var1, w_var2, w_var3, w_var4, w_var5, w_var6, w_var7, w_var8, w_var9, w_var10, w_var11, w_var12, w_var13, w_var14, w_var15, w_var16, w_var17, w_var18, w_var19, w_var20, w_dictT, w_dictK, w_gTp, wpS_par, wpS_par3, w_zip, w_enum, w_rev, v_zipL, v_zipT, v_enumL, v_revL, v_revT, w_gsCons, w_gsNil, w_callK, wpR_ok, wpR_sized, v_nm, v_addI, v_addS, v_addT, v_addL, v_sub, v_neg, w_mul, w_div, w_mod, w_pow, v_ordI, v_eqI, v_neI, v_eqS, v_neS, v_lenS, v_lenL, v_lenF, v_lenT, v_truB, v_seqS, v_seqT, v_seqL, v_seqF, v_listT, v_listL, v_tupleL, v_tupleT, v_tupD, v_lstD, v_lstR, v_slT, v_slL, v_slF, w_slS, defD_rt, defD_nx, defD_ex, defD_bk, defD_ct, AV.bl.injEq, AV.int.injEq, Option.some.injEq, exists_eq_left', tyS, if_true, if_false, Bool.false_eq_true, true_and, and_true]
    have hlen := hM.len
    rw [List.length_append] at hlen
    rw [hlen]
    have h2 := hM.push (.lst [])
    rw [List.append_assoc] at h2
    exact ⟨by simp, rfl, h2⟩
  rintro _ M ⟨rfl, hM⟩
  have g1 : ∀ xs ys : List AV, (wrest w l h ++ tmp ++ [AV.lst xs, .lst ys])[(wrest w l h ++ tmp).length]? = some (.lst xs) := fun xs ys => two_1 _ _ _
  have g2 : ∀ xs ys : List AV, (wrest w l h ++ tmp ++ [AV.lst xs, .lst ys])[(wrest w l h ++ tmp).length + 1]? = some (.lst ys) := fun xs ys => two_2 _ _ _
  have hset1 : ∀ xs ys zs : List AV, (wrest w l h ++ tmp ++ [AV.lst xs, .lst ys]).set (wrest w l h ++ tmp).length (.lst zs) = wrest w l h ++ tmp ++ [AV.lst zs, .lst ys] := fun xs ys zs => two_s1 _ _ _ _
  have hset2 : ∀ xs ys zs : List AV, (wrest w l h ++ tmp ++ [AV.lst xs, .lst ys]).set ((wrest w l h ++ tmp).length + 1) (.lst zs) = wrest w l h ++ tmp ++ [AV.lst xs, .lst zs] := fun xs ys zs => two_s2 _ _ _ _
  refine wp_seq (fun G M => ∃ way : Int, 0 ≤ way ∧ way < 3 ∧ G = [some (.ref 0), some (.ref 5), some (.lst (L.map nameA)), some (.ref ((wrest w l h ++ tmp).length + 1)), some (.ref ((wrest w l h ++ tmp).length + 2)), some (.int way), none, none, none] ∧ Fs (wrest w l h ++ tmp ++ [.lst (L.map nameA), .lst (([] : List Nm).map nameA)]) [] M) ?_ ?_
  · try simp -implicitDefEqProofs only [w_enumT, v_enumC, v_enumT, v_seqC, v_lenC, v_listC, v_listRL, w_keys, List.map_cons, List.map_nil, List.cons_append, List.nil_append, List.replicate, List.set_cons_succ, List.set_cons_zero, wipeG, wpS_then, wpS_set, wpS_if, wpS_mret, wpS_retN, wpS_mnext, wpS_mbrk, wpS_mcnt, wpS_exp, wpS_asg, wpS_for, w_c, w_bin, w_un, w_ifE, w_andV, w_orV, w_notV, w_call, w_chain, w_meth, w_meth0, w_sl, w_noPart, w_part, w_nil, w_cons, w_bl, w_tru, w_and, w_or, w_not, w_lcV, w_lcR, w_lc, w_seq, w_rng1, w_rng2, w_var0, w_var1, w_var2, w_var3, w_var4, w_var5, w_var6, w_var7, w_var8, w_var9, w_var10, w_var11, w_var12, w_var13, w_var14, w_var15, w_var16, w_var17, w_var18, w_var19, w_var20, w_dictT, w_dictK, w_gTp, wpS_par, wpS_par3, w_zip, w_enum, w_rev, v_zipL, v_zipT, v_enumL, v_revL, v_revT, w_gsCons, w_gsNil, w_callK, wpR_ok, wpR_sized, v_nm, v_addI, v_addS, v_addT, v_addL, v_sub, v_neg, w_mul, w_div, w_mod, w_pow, v_ordI, v_eqI, v_neI, v_eqS, v_neS, v_lenS, v_lenL, v_lenF, v_lenT, v_truB, v_seqS, v_seqT, v_seqL, v_seqF, v_listT, v_listL, v_tupleL, v_tupleT, v_tupD, v_lstD, v_lstR, v_slT, v_slL, v_slF, w_slS, defD_rt, defD_nx, defD_ex, defD_bk, defD_ct, AV.bl.injEq, AV.int.injEq, Option.some.injEq, exists_eq_left', tyS, if_true, if_false, Bool.false_eq_true, true_and, and_true]
    refine d_draw h0 hM (by decide) (by decide) fun n M1 n0 n1 hd => ?_
    exact ⟨n, n0, n1, rfl, hd⟩
  rintro _ M ⟨way, hw0, hw1, rfl, hM⟩
  have hLl : L.length ≤ 20 := by
    have := nd_len L (namesW w) hnd fun x hx => (hL x).mp hx
    simp only [namesW, List.length_map] at this
    omega
  refine wp_seq (fun G M => ∃ R g6 g7, Road w R ∧ G = [some (.ref 0), some (.ref 5), some (.lst (L.map nameA)), some (.ref ((wrest w l h ++ tmp).length + 1)), some (.ref ((wrest w l h ++ tmp).length + 2)), some (.int way), g6, g7, none] ∧ Fs (wrest w l h ++ tmp ++ [.lst (([] : List Nm).map nameA), .lst (R.map nameA)]) [] M) ?_ ?_
  · refine wp_while (fun m G M => ∃ (Lf Dn : List Nm) (g6 g7 : Option AV), m = Lf.length ∧ Dn.length + Lf.length ≤ 20 ∧ Lay w Lf Dn ∧ G = [some (.ref 0), some (.ref 5), some (.lst (L.map nameA)), some (.ref ((wrest w l h ++ tmp).length + 1)), some (.ref ((wrest w l h ++ tmp).length + 2)), some (.int way), g6, g7, none] ∧ Fs (wrest w l h ++ tmp ++ [.lst (Lf.map nameA), .lst (Dn.map nameA)]) [] M) ?_ 1000000 L.length _ _ (by omega) ⟨L, [], _, _, rfl, by simpa using hLl, ⟨by simpa using hnd, by simpa using hL, fun u n v e => by simp at e⟩, rfl, hM⟩
    rintro m G M ⟨Lf, Dn, g6, g7, rfl, hlen, hlay, rfl, hM⟩
    have hne := f_neR0 (i := (wrest w l h ++ tmp).length) hM (g1 _ _) (plain_namesL Lf)
    have hin : ∀ n ∈ Lf, n ∈ namesW w := fun n hn => (hlay.mem n).mp (by simp [hn])
    have hlk : (Lf.map nameA).length = Lf.length := List.length_map _
    try simp -implicitDefEqProofs only [w_enumT, v_enumC, v_enumT, v_seqC, v_lenC, v_listC, v_listRL, w_keys, List.map_cons, List.map_nil, List.cons_append, List.nil_append, List.replicate, List.set_cons_succ, List.set_cons_zero, wipeG, wpS_then, wpS_set, wpS_if, wpS_mret, wpS_retN, wpS_mnext, wpS_mbrk, wpS_mcnt, wpS_exp, wpS_asg, wpS_for, w_c, w_bin, w_un, w_ifE, w_andV, w_orV, w_notV, w_call, w_chain, w_meth, w_meth0, w_sl, w_noPart, w_part, w_nil, w_cons, w_bl, w_tru, w_and, w_or, w_not, w_lcV, w_lcR, w_lc, w_seq, w_rng1, w_rng2, w_var0, w_var1, w_var2, w_var3, w_var4, w_var5, w_var6, w_var7, w_var8, w_var9, w_var10, w_var11, w_var12, w_var13, w_var14, w_var15, w_var16, w_var17, w_var18, w_var19, w_var20, w_dictT, w_dictK, w_gTp, wpS_par, wpS_par3, w_zip, w_enum, w_rev, v_zipL, v_zipT, v_enumL, v_revL, v_revT, w_gsCons, w_gsNil, w_callK, wpR_ok, wpR_sized, v_nm, v_addI, v_addS, v_addT, v_addL, v_sub, v_neg, w_mul, w_div, w_mod, w_pow, v_ordI, v_eqI, v_neI, v_eqS, v_neS, v_lenS, v_lenL, v_lenF, v_lenT, v_truB, v_seqS, v_seqT, v_seqL, v_seqF, v_listT, v_listL, v_tupleL, v_tupleT, v_tupD, v_lstD, v_lstR, v_slT, v_slL, v_slF, w_slS, defD_rt, defD_nx, defD_ex, defD_bk, defD_ct, AV.bl.injEq, AV.int.injEq, Option.some.injEq, exists_eq_left', tyS, if_true, if_false, Bool.false_eq_true, true_and, and_true, hne]
    refine ⟨by simp, ?_⟩
    split
    · rename_i hnn
      have hLf : Lf ≠ [] := fun z => by rw [z] at hnn; simp at hnn
      have hrd := ready_some hw hin hLf
      have hrl : (readyN w Lf).length ≤ Lf.length := List.length_filter_le _ _
      have hrp : 0 < (readyN w Lf).length := List.length_pos_iff.mpr hrd
      have hpos : 0 < Lf.length := List.length_pos_iff.mpr hLf
      have hseq := f_seq (i := (wrest w l h ++ tmp).length) hM (g1 (Lf.map nameA) (Dn.map nameA))
      have hhld := f_held (i := (wrest w l h ++ tmp).length) hM (g1 (Lf.map nameA) (Dn.map nameA))
      have hM' : Fs (wrest w l h ++ (tmp ++ [.lst (Lf.map nameA), .lst (Dn.map nameA)])) [] M := by rw [← List.append_assoc]; exact hM
      have hcomp := lcl_mapH (S := ⟨Lf.map nameA, some ((wrest w l h ++ tmp).length + 1)⟩) (t := gNm 6) (c := mBl (mBin gEq (mLcV (mLc [8] (mSeq (mBin gIx (mBin gIx (mVar 1) (mC (.str "knows"))) (mVar 6))) (gNm 8) (mBl (mBin (gIn false) (mVar 8) (mVar 3))) (mVar 8))) (mLst (mNil)))) (el := mVar 6) (G := [some (.ref 0), some (.ref 5), some (.lst (L.map nameA)), some (.ref ((wrest w l h ++ tmp).length + 1)), some (.ref ((wrest w l h ++ tmp).length + 2)), some (.int way), none, g7, none]) (M := M) hhld nameA (fun n => (knowsW w n).all fun x => decide (x ∉ Lf)) nameA Lf [] (by simp; omega) fun n hn => by
        have hnw := hin n hn
        obtain ⟨r, e1, hr, e2, e3⟩ := knows_in hnw
        have hkn := w_knAt hM' e1
        have hkl := nd_knows_len hw hl hnw
        rw [e3] at hkl
        refine ⟨_, rfl, wpR_eq ?_, fun _ => rfl⟩
        try simp -implicitDefEqProofs only [w_enumT, v_enumC, v_enumT, v_seqC, v_lenC, v_listC, v_listRL, w_keys, List.map_cons, List.map_nil, List.cons_append, List.nil_append, List.replicate, List.set_cons_succ, List.set_cons_zero, wipeG, wpS_then, wpS_set, wpS_if, wpS_mret, wpS_retN, wpS_mnext, wpS_mbrk, wpS_mcnt, wpS_exp, wpS_asg, wpS_for, w_c, w_bin, w_un, w_ifE, w_andV, w_orV, w_notV, w_call, w_chain, w_meth, w_meth0, w_sl, w_noPart, w_part, w_nil, w_cons, w_bl, w_tru, w_and, w_or, w_not, w_lcV, w_lcR, w_lc, w_seq, w_rng1, w_rng2, w_var0, w_var1, w_var2, w_var3, w_var4, w_var5, w_var6, w_var7, w_var8, w_var9, w_var10, w_var11, w_var12, w_var13, w_var14, w_var15, w_var16, w_var17, w_var18, w_var19, w_var20, w_dictT, w_dictK, w_gTp, wpS_par, wpS_par3, w_zip, w_enum, w_rev, v_zipL, v_zipT, v_enumL, v_revL, v_revT, w_gsCons, w_gsNil, w_callK, wpR_ok, wpR_sized, v_nm, v_addI, v_addS, v_addT, v_addL, v_sub, v_neg, w_mul, w_div, w_mod, w_pow, v_ordI, v_eqI, v_neI, v_eqS, v_neS, v_lenS, v_lenL, v_lenF, v_lenT, v_truB, v_seqS, v_seqT, v_seqL, v_seqF, v_listT, v_listL, v_tupleL, v_tupleT, v_tupD, v_lstD, v_lstR, v_slT, v_slL, v_slF, w_slS, defD_rt, defD_nx, defD_ex, defD_bk, defD_ct, AV.bl.injEq, AV.int.injEq, Option.some.injEq, exists_eq_left', tyS, if_true, if_false, Bool.false_eq_true, true_and, and_true, w_kn hM', hkn, flA]
        have hlc2 := lcl_map (l0 := r.floor.map nameA) (t := gNm 8) (c := mBl (mBin (gIn false) (mVar 8) (mVar 3))) (el := mVar 8) (G := [some (.ref 0), some (.ref 5), some (.lst (L.map nameA)), some (.ref ((wrest w l h ++ tmp).length + 1)), some (.ref ((wrest w l h ++ tmp).length + 2)), some (.int way), some (nameA n), g7, none]) (M := M) nameA (fun x => decide (x ∈ Lf)) nameA r.floor [] (by simp; omega) fun x hx => ⟨_, rfl, wpR_eq (by
          have hi := f_inN (i := (wrest w l h ++ tmp).length) (neg := false) (n := x) hM (g1 (Lf.map nameA) (Dn.map nameA))
          try simp -implicitDefEqProofs only [w_enumT, v_enumC, v_enumT, v_seqC, v_lenC, v_listC, v_listRL, w_keys, List.map_cons, List.map_nil, List.cons_append, List.nil_append, List.replicate, List.set_cons_succ, List.set_cons_zero, wipeG, wpS_then, wpS_set, wpS_if, wpS_mret, wpS_retN, wpS_mnext, wpS_mbrk, wpS_mcnt, wpS_exp, wpS_asg, wpS_for, w_c, w_bin, w_un, w_ifE, w_andV, w_orV, w_notV, w_call, w_chain, w_meth, w_meth0, w_sl, w_noPart, w_part, w_nil, w_cons, w_bl, w_tru, w_and, w_or, w_not, w_lcV, w_lcR, w_lc, w_seq, w_rng1, w_rng2, w_var0, w_var1, w_var2, w_var3, w_var4, w_var5, w_var6, w_var7, w_var8, w_var9, w_var10, w_var11, w_var12, w_var13, w_var14, w_var15, w_var16, w_var17, w_var18, w_var19, w_var20, w_dictT, w_dictK, w_gTp, wpS_par, wpS_par3, w_zip, w_enum, w_rev, v_zipL, v_zipT, v_enumL, v_revL, v_revT, w_gsCons, w_gsNil, w_callK, wpR_ok, wpR_sized, v_nm, v_addI, v_addS, v_addT, v_addL, v_sub, v_neg, w_mul, w_div, w_mod, w_pow, v_ordI, v_eqI, v_neI, v_eqS, v_neS, v_lenS, v_lenL, v_lenF, v_lenT, v_truB, v_seqS, v_seqT, v_seqL, v_seqF, v_listT, v_listL, v_tupleL, v_tupleT, v_tupD, v_lstD, v_lstR, v_slT, v_slL, v_slF, w_slS, defD_rt, defD_nx, defD_ex, defD_bk, defD_ct, AV.bl.injEq, AV.int.injEq, Option.some.injEq, exists_eq_left', tyS, if_true, if_false, Bool.false_eq_true, true_and, and_true, hi]), fun _ => rfl⟩
        rw [List.nil_append] at hlc2
        rw [hlc2]
        try simp -implicitDefEqProofs only [w_enumT, v_enumC, v_enumT, v_seqC, v_lenC, v_listC, v_listRL, w_keys, List.map_cons, List.map_nil, List.cons_append, List.nil_append, List.replicate, List.set_cons_succ, List.set_cons_zero, wipeG, wpS_then, wpS_set, wpS_if, wpS_mret, wpS_retN, wpS_mnext, wpS_mbrk, wpS_mcnt, wpS_exp, wpS_asg, wpS_for, w_c, w_bin, w_un, w_ifE, w_andV, w_orV, w_notV, w_call, w_chain, w_meth, w_meth0, w_sl, w_noPart, w_part, w_nil, w_cons, w_bl, w_tru, w_and, w_or, w_not, w_lcV, w_lcR, w_lc, w_seq, w_rng1, w_rng2, w_var0, w_var1, w_var2, w_var3, w_var4, w_var5, w_var6, w_var7, w_var8, w_var9, w_var10, w_var11, w_var12, w_var13, w_var14, w_var15, w_var16, w_var17, w_var18, w_var19, w_var20, w_dictT, w_dictK, w_gTp, wpS_par, wpS_par3, w_zip, w_enum, w_rev, v_zipL, v_zipT, v_enumL, v_revL, v_revT, w_gsCons, w_gsNil, w_callK, wpR_ok, wpR_sized, v_nm, v_addI, v_addS, v_addT, v_addL, v_sub, v_neg, w_mul, w_div, w_mod, w_pow, v_ordI, v_eqI, v_neI, v_eqS, v_neS, v_lenS, v_lenL, v_lenF, v_lenT, v_truB, v_seqS, v_seqT, v_seqL, v_seqF, v_listT, v_listL, v_tupleL, v_tupleT, v_tupD, v_lstD, v_lstR, v_slT, v_slL, v_slF, w_slS, defD_rt, defD_nx, defD_ex, defD_bk, defD_ct, AV.bl.injEq, AV.int.injEq, Option.some.injEq, exists_eq_left', tyS, if_true, if_false, Bool.false_eq_true, true_and, and_true, v_eqL0 (plain_namesL _)]
        refine ⟨by simp, ?_⟩
        rw [e3, List.isEmpty_map, Bool.eq_iff_iff, List.isEmpty_iff, List.filter_eq_nil_iff, List.all_eq_true]
        simp
      rw [List.nil_append] at hcomp
      obtain ⟨k, hk⟩ : ∃ k, Lf.length = k + 1 := ⟨Lf.length - 1, by omega⟩
      refine ⟨k, hk, ?_⟩
      try simp -implicitDefEqProofs only [w_enumT, v_enumC, v_enumT, v_seqC, v_lenC, v_listC, v_listRL, w_keys, List.map_cons, List.map_nil, List.cons_append, List.nil_append, List.replicate, List.set_cons_succ, List.set_cons_zero, wipeG, wpS_then, wpS_set, wpS_if, wpS_mret, wpS_retN, wpS_mnext, wpS_mbrk, wpS_mcnt, wpS_exp, wpS_asg, wpS_for, w_c, w_bin, w_un, w_ifE, w_andV, w_orV, w_notV, w_call, w_chain, w_meth, w_meth0, w_sl, w_noPart, w_part, w_nil, w_cons, w_bl, w_tru, w_and, w_or, w_not, w_lcV, w_lcR, w_lc, w_seq, w_rng1, w_rng2, w_var0, w_var1, w_var2, w_var3, w_var4, w_var5, w_var6, w_var7, w_var8, w_var9, w_var10, w_var11, w_var12, w_var13, w_var14, w_var15, w_var16, w_var17, w_var18, w_var19, w_var20, w_dictT, w_dictK, w_gTp, wpS_par, wpS_par3, w_zip, w_enum, w_rev, v_zipL, v_zipT, v_enumL, v_revL, v_revT, w_gsCons, w_gsNil, w_callK, wpR_ok, wpR_sized, v_nm, v_addI, v_addS, v_addT, v_addL, v_sub, v_neg, w_mul, w_div, w_mod, w_pow, v_ordI, v_eqI, v_neI, v_eqS, v_neS, v_lenS, v_lenL, v_lenF, v_lenT, v_truB, v_seqS, v_seqT, v_seqL, v_seqF, v_listT, v_listL, v_tupleL, v_tupleT, v_tupD, v_lstD, v_lstR, v_slT, v_slL, v_slF, w_slS, defD_rt, defD_nx, defD_ex, defD_bk, defD_ct, AV.bl.injEq, AV.int.injEq, Option.some.injEq, exists_eq_left', tyS, if_true, if_false, Bool.false_eq_true, true_and, and_true, hseq]
      rw [hcomp]
      try simp -implicitDefEqProofs only [w_enumT, v_enumC, v_enumT, v_seqC, v_lenC, v_listC, v_listRL, w_keys, List.map_cons, List.map_nil, List.cons_append, List.nil_append, List.replicate, List.set_cons_succ, List.set_cons_zero, wipeG, wpS_then, wpS_set, wpS_if, wpS_mret, wpS_retN, wpS_mnext, wpS_mbrk, wpS_mcnt, wpS_exp, wpS_asg, wpS_for, w_c, w_bin, w_un, w_ifE, w_andV, w_orV, w_notV, w_call, w_chain, w_meth, w_meth0, w_sl, w_noPart, w_part, w_nil, w_cons, w_bl, w_tru, w_and, w_or, w_not, w_lcV, w_lcR, w_lc, w_seq, w_rng1, w_rng2, w_var0, w_var1, w_var2, w_var3, w_var4, w_var5, w_var6, w_var7, w_var8, w_var9, w_var10, w_var11, w_var12, w_var13, w_var14, w_var15, w_var16, w_var17, w_var18, w_var19, w_var20, w_dictT, w_dictK, w_gTp, wpS_par, wpS_par3, w_zip, w_enum, w_rev, v_zipL, v_zipT, v_enumL, v_revL, v_revT, w_gsCons, w_gsNil, w_callK, wpR_ok, wpR_sized, v_nm, v_addI, v_addS, v_addT, v_addL, v_sub, v_neg, w_mul, w_div, w_mod, w_pow, v_ordI, v_eqI, v_neI, v_eqS, v_neS, v_lenS, v_lenL, v_lenF, v_lenT, v_truB, v_seqS, v_seqT, v_seqL, v_seqF, v_listT, v_listL, v_tupleL, v_tupleT, v_tupD, v_lstD, v_lstR, v_slT, v_slL, v_slF, w_slS, defD_rt, defD_nx, defD_ex, defD_bk, defD_ct, AV.bl.injEq, AV.int.injEq, Option.some.injEq, exists_eq_left', tyS, if_true, if_false, Bool.false_eq_true, true_and, and_true]
      refine d_draw h0 hM (by simp [readyN] at hrp ⊢; omega) (by simp [readyN] at hrl hrp ⊢; omega) fun c M1 c0 c1 h1 => ?_
      try simp -implicitDefEqProofs only [w_enumT, v_enumC, v_enumT, v_seqC, v_lenC, v_listC, v_listRL, w_keys, List.map_cons, List.map_nil, List.cons_append, List.nil_append, List.replicate, List.set_cons_succ, List.set_cons_zero, wipeG, wpS_then, wpS_set, wpS_if, wpS_mret, wpS_retN, wpS_mnext, wpS_mbrk, wpS_mcnt, wpS_exp, wpS_asg, wpS_for, w_c, w_bin, w_un, w_ifE, w_andV, w_orV, w_notV, w_call, w_chain, w_meth, w_meth0, w_sl, w_noPart, w_part, w_nil, w_cons, w_bl, w_tru, w_and, w_or, w_not, w_lcV, w_lcR, w_lc, w_seq, w_rng1, w_rng2, w_var0, w_var1, w_var2, w_var3, w_var4, w_var5, w_var6, w_var7, w_var8, w_var9, w_var10, w_var11, w_var12, w_var13, w_var14, w_var15, w_var16, w_var17, w_var18, w_var19, w_var20, w_dictT, w_dictK, w_gTp, wpS_par, wpS_par3, w_zip, w_enum, w_rev, v_zipL, v_zipT, v_enumL, v_revL, v_revT, w_gsCons, w_gsNil, w_callK, wpR_ok, wpR_sized, v_nm, v_addI, v_addS, v_addT, v_addL, v_sub, v_neg, w_mul, w_div, w_mod, w_pow, v_ordI, v_eqI, v_neI, v_eqS, v_neS, v_lenS, v_lenL, v_lenF, v_lenT, v_truB, v_seqS, v_seqT, v_seqL, v_seqF, v_listT, v_listL, v_tupleL, v_tupleT, v_tupD, v_lstD, v_lstR, v_slT, v_slL, v_slF, w_slS, defD_rt, defD_nx, defD_ex, defD_bk, defD_ct, AV.bl.injEq, AV.int.injEq, Option.some.injEq, exists_eq_left', tyS, if_true, if_false, Bool.false_eq_true, true_and, and_true]
      refine ⟨by simp, ?_⟩
      have hfil : (Lf.filter fun n => (knowsW w n).all fun x => decide (x ∉ Lf)) = readyN w Lf := rfl
      rw [hfil] at c1 ⊢
      rw [List.length_map] at c1 ⊢
      refine w_one hw0 (by simpa using hw1) fun z hz => ?_
      have hz : ∃ c : Int, z = .int c ∧ 0 ≤ c ∧ c < (readyN w Lf).length := by
        simp only [List.mem_cons, List.not_mem_nil, or_false] at hz
        rcases hz with rfl | rfl | rfl
        · exact ⟨_, rfl, c0, c1⟩
        · exact ⟨_, rfl, by omega, by omega⟩
        · exact ⟨_, rfl, by omega, by omega⟩
      obtain ⟨c, rfl, k0, k1⟩ := hz
      refine w_one k0 (by rw [List.length_map]; exact k1) fun z hz => ?_
      obtain ⟨n, hn, rfl⟩ := List.mem_map.mp hz
      obtain ⟨hst, hsl⟩ := hlay.step hw hn
      have hnL : n ∈ Lf := (List.mem_filter.mp hn).1
      refine ⟨f_tyL h1 (g1 _ _), ?_⟩
      refine f_remove h1 (g1 _ _) hnL fun M2 h2 => ?_
      rw [hset1] at h2
      refine ⟨f_tyL h2 (g2 _ _), ?_⟩
      refine f_append h2 (g2 _ _) (by rw [List.length_map]; omega) fun M3 h3 => ?_
      rw [hset2] at h3
      refine ⟨Lf.eraseIdx (plc Lf n), Dn ++ [n], _, _, by omega, by simp; omega, hst, rfl, ?_⟩
      rw [List.map_append]
      exact h3
    · rename_i hnn
      have hLf : Lf = [] := by
        cases Lf with
        | nil => rfl
        | cons a r => simp at hnn
      subst hLf
      refine ⟨Dn, _, _, ⟨by simpa using hlay.nd, by simpa using hlay.mem, hlay.ahead⟩, rfl, hM⟩
  rintro _ M ⟨R, g6, g7, hR, rfl, hM⟩
  have ht := f_tuc (i := (wrest w l h ++ tmp).length + 1) hM (g2 _ _)
  try simp -implicitDefEqProofs only [w_enumT, v_enumC, v_enumT, v_seqC, v_lenC, v_listC, v_listRL, w_keys, List.map_cons, List.map_nil, List.cons_append, List.nil_append, List.replicate, List.set_cons_succ, List.set_cons_zero, wipeG, wpS_then, wpS_set, wpS_if, wpS_mret, wpS_retN, wpS_mnext, wpS_mbrk, wpS_mcnt, wpS_exp, wpS_asg, wpS_for, w_c, w_bin, w_un, w_ifE, w_andV, w_orV, w_notV, w_call, w_chain, w_meth, w_meth0, w_sl, w_noPart, w_part, w_nil, w_cons, w_bl, w_tru, w_and, w_or, w_not, w_lcV, w_lcR, w_lc, w_seq, w_rng1, w_rng2, w_var0, w_var1, w_var2, w_var3, w_var4, w_var5, w_var6, w_var7, w_var8, w_var9, w_var10, w_var11, w_var12, w_var13, w_var14, w_var15, w_var16, w_var17, w_var18, w_var19, w_var20, w_dictT, w_dictK, w_gTp, wpS_par, wpS_par3, w_zip, w_enum, w_rev, v_zipL, v_zipT, v_enumL, v_revL, v_revT, w_gsCons, w_gsNil, w_callK, wpR_ok, wpR_sized, v_nm, v_addI, v_addS, v_addT, v_addL, v_sub, v_neg, w_mul, w_div, w_mod, w_pow, v_ordI, v_eqI, v_neI, v_eqS, v_neS, v_lenS, v_lenL, v_lenF, v_lenT, v_truB, v_seqS, v_seqT, v_seqL, v_seqF, v_listT, v_listL, v_tupleL, v_tupleT, v_tupD, v_lstD, v_lstR, v_slT, v_slL, v_slF, w_slS, defD_rt, defD_nx, defD_ex, defD_bk, defD_ct, AV.bl.injEq, AV.int.injEq, Option.some.injEq, exists_eq_left', tyS, if_true, if_false, Bool.false_eq_true, true_and, and_true, ht]
  refine ⟨?_, hM.tmp, fun M'' h'' => q R M'' hR h''⟩
  simp only [plain, List.all_map, List.all_eq_true]
  exact fun n _ => rfl
end
end Px

namespace K13
open PySem PySem.Spec PyProof.Rows L2 Mx
def topS (i : Nat) : Stmt := PySem.Challenge.pw_marginwords_k13_exchanges_told.main.body.getD i (.Pass ⟨0, 0, 0, 0⟩)
abbrev s_exchanged : Stmt := topS 1
abbrev s_first_unlike : Stmt := topS 3
abbrev s_exchange_paper : Stmt := topS 4
abbrev s__law_feed : Stmt := topS 6
abbrev s__law_draw : Stmt := topS 7
abbrev s__law_words : Stmt := topS 8
abbrev s__law_deed : Stmt := topS 9
abbrev s__law_step : Stmt := topS 10
abbrev s__law_world : Stmt := topS 11
abbrev s__law_ledger : Stmt := topS 12
abbrev s__law_road : Stmt := topS 13
abbrev s__law_wide : Stmt := topS 14
abbrev s__law_right : Stmt := topS 15
abbrev s_law : Stmt := topS 16
theorem sc_exchanged : FnScope ["road", "k"] ["road", "k"] (defScope s_exchanged) := ⟨rfl, rfl, rfl, by decide +kernel, rfl, by decide +kernel, by decide +kernel⟩
theorem sc_first_unlike : FnScope ["road", "places", "k"] ["road", "places"] (defScope s_first_unlike) := ⟨rfl, rfl, rfl, by decide +kernel, rfl, by decide +kernel, by decide +kernel⟩
theorem sc_exchange_paper : FnScope ["ledger", "one", "other", "places", "place", "name", "road", "found", "at"] ["ledger", "one", "other"] (defScope s_exchange_paper) := ⟨rfl, rfl, rfl, by decide +kernel, rfl, by decide +kernel, by decide +kernel⟩
theorem sc__law_feed : FnScope ["_law_script"] ["_law_script"] (defScope s__law_feed) := ⟨rfl, rfl, rfl, by decide +kernel, rfl, by decide +kernel, by decide +kernel⟩
theorem sc__law_draw : FnScope ["_law_feed_here", "_law_many", "_law_figure", "_law_at", "_law_cell", "_law_mixed"] ["_law_feed_here", "_law_many"] (defScope s__law_draw) := ⟨rfl, rfl, rfl, by decide +kernel, rfl, by decide +kernel, by decide +kernel⟩
theorem sc__law_words : FnScope ["_law_feed_here", "_law_many", "_law_abc", "_law_way", "_law_first", "_law_k", "_law_stem", "_law_at", "_law_start", "_law_step_here", "_law_words_here", "_law_tail", "_law_own"] ["_law_feed_here", "_law_many"] (defScope s__law_words) := ⟨rfl, rfl, rfl, by decide +kernel, rfl, by decide +kernel, by decide +kernel⟩
theorem sc__law_deed : FnScope ["_law_feed_here", "_law_world_here", "_law_base", "_law_floor", "_law_abc", "_law_letters", "_law_way", "_law_sorts", "_law_hangs", "_law_name", "_law_k"] ["_law_feed_here", "_law_world_here", "_law_base", "_law_floor"] (defScope s__law_deed) := ⟨rfl, rfl, rfl, by decide +kernel, rfl, by decide +kernel, by decide +kernel⟩
theorem sc__law_step : FnScope ["_law_feed_here", "_law_world_here", "_law_words_here", "_law_branch", "_law_names", "_law_grounds", "_law_wanted", "_law_one", "_law_name", "_law_floor", "_law_below", "_law_base", "_law_own", "_law_deed_here"] ["_law_feed_here", "_law_world_here", "_law_words_here"] (defScope s__law_step) := ⟨rfl, rfl, rfl, by decide +kernel, rfl, by decide +kernel, by decide +kernel⟩
theorem sc__law_world : FnScope ["_law_feed_here", "_law_words_here", "_law_many", "_law_world_here", "_law_k"] ["_law_feed_here", "_law_words_here", "_law_many"] (defScope s__law_world) := ⟨rfl, rfl, rfl, by decide +kernel, rfl, by decide +kernel, by decide +kernel⟩
theorem sc__law_ledger : FnScope ["_law_world_here", "_law_names", "_law_name"] ["_law_world_here", "_law_names"] (defScope s__law_ledger) := ⟨rfl, rfl, rfl, by decide +kernel, rfl, by decide +kernel, by decide +kernel⟩
theorem sc__law_road : FnScope ["_law_feed_here", "_law_world_here", "_law_names", "_law_left", "_law_road_here", "_law_way", "_law_name", "_law_ready", "_law_one"] ["_law_feed_here", "_law_world_here", "_law_names"] (defScope s__law_road) := ⟨rfl, rfl, rfl, by decide +kernel, rfl, by decide +kernel, by decide +kernel⟩
theorem sc__law_wide : FnScope ["_law_words_here", "_law_world_here", "_law_word"] ["_law_words_here"] (defScope s__law_wide) := ⟨rfl, rfl, rfl, by decide +kernel, rfl, by decide +kernel, by decide +kernel⟩
theorem sc__law_right : FnScope ["_law_world_here", "_law_one", "_law_other", "_law_told", "_law_at", "_law_row", "_law_pairs", "_law_k", "_law_name"] ["_law_world_here", "_law_one", "_law_other", "_law_told"] (defScope s__law_right) := ⟨rfl, rfl, rfl, by decide +kernel, rfl, by decide +kernel, by decide +kernel⟩
theorem sc_law : FnScope ["_law_script", "_law_feed_here", "_law_words_here", "_law_world_here", "_law_names", "_law_ledger_here", "_law_roads", "_law_stayed", "_law_one", "_law_other", "_law_told", "_law_k"] ["_law_script"] (defScope s_law) := ⟨rfl, rfl, rfl, by decide +kernel, rfl, by decide +kernel, by decide +kernel⟩
/-! ### mirrors -/
noncomputable def b_exchanged : SM := mRet (mBin gAdd (mBin gAdd (mSl gSl (mVar 0) (mNoPart) (mPart (mVar 1))) (mTup (mCons (mBin gIx (mVar 0) (mBin gAdd (mVar 1) (mC (.int 1)))) (mCons (mBin gIx (mVar 0) (mVar 1)) (mNil))))) (mSl gSl (mVar 0) (mPart (mBin gAdd (mVar 1) (mC (.int 2)))) (mNoPart)))
noncomputable def m_exchanged : List AV → AH → Res AV := gc (mDef 2 0 b_exchanged)
noncomputable def b_first_unlike : SM := mThen (mFor (mRng1 (mCons (mBin gSub (mCall gLen (mCons (mVar 0) (mNil))) (mC (.int 1))) (mNil))) (gNm 2) (mIf (mBl (mBin gGt (mBin gIx (mVar 1) (mBin gIx (mVar 0) (mVar 2))) (mBin gIx (mVar 1) (mBin gIx (mVar 0) (mBin gAdd (mVar 2) (mC (.int 1))))))) (mRet (mVar 2)) (mNext))) (mRet (mC .non))
noncomputable def m_first_unlike : List AV → AH → Res AV := gc (mDef 2 1 b_first_unlike)
noncomputable def b_exchange_paper : SM := mThen (mSet 3 (mDictT)) (mThen (mFor (mEnumT (mCons (mVar 2) (mNil))) (gTp 2 (gsCons (gNm 4) (gsCons (gNm 5) (gsNil)))) (mAsg (gPut (mVar 3) (mVar 5)) (mVar 4))) (mThen (mSet 6 (mVar 1)) (mThen (mSet 7 (mLstR (mNil))) (mThen (mSet 8 (mCall m_first_unlike (mCons (mVar 6) (mCons (mVar 3) (mNil))))) (mThen (mWhile 1000000 (mBl (mBin gNotN (mVar 8) (mC .non))) (mThen (mExp (mMeth tyL gAppend (mVar 7) (mCons (mVar 8) (mNil)))) (mThen (mSet 6 (mCall m_exchanged (mCons (mVar 6) (mCons (mVar 8) (mNil))))) (mSet 8 (mCall m_first_unlike (mCons (mVar 6) (mCons (mVar 3) (mNil)))))))) (mRet (mCall gTuple (mCons (mVar 7) (mNil)))))))))
noncomputable def m_exchange_paper : List AV → AH → Res AV := gc (mDef 3 6 b_exchange_paper)
noncomputable def b__law_feed : SM := mRet (mDisp (kCons (.inr "cells") (mCall gListV (mCons (mSl gSl (mVar 0) (mNoPart) (mPart (mC (.int 63)))) (mNil))) (kCons (.inr "at") (mC (.int 0)) (kCons (.inr "left") (mC (.int 0)) (kCons (.inr "count") (mC (.int 0)) (kNil))))))
noncomputable def m__law_feed : List AV → AH → Res AV := gc (mDef 1 0 b__law_feed)
noncomputable def b__law_draw : SM := mThen (mAsg (gPut (mVar 0) (mC (.str "count"))) (mBin gAdd (mBin gIx (mVar 0) (mC (.str "count"))) (mC (.int 1)))) (mThen (mIf (mBl (mBin gGt (mBin gIx (mVar 0) (mC (.str "left"))) (mC (.int 0)))) (mThen (mSet 2 (mBin gMod (mBin gIx (mVar 0) (mC (.str "left"))) (mVar 1))) (mThen (mAsg (gPut (mVar 0) (mC (.str "left"))) (mBin gDiv (mBin gIx (mVar 0) (mC (.str "left"))) (mVar 1))) (mRet (mVar 2)))) (mNext)) (mThen (mSet 3 (mBin gIx (mVar 0) (mC (.str "at")))) (mThen (mAsg (gPut (mVar 0) (mC (.str "at"))) (mBin gAdd (mVar 3) (mC (.int 1)))) (mThen (mSet 4 (mIfE (mBl (mBin gNe (mBin gIx (mVar 0) (mC (.str "cells"))) (mLst (mNil)))) (mBin gIx (mBin gIx (mVar 0) (mC (.str "cells"))) (mBin gMod (mVar 3) (mCall gLen (mCons (mBin gIx (mVar 0) (mC (.str "cells"))) (mNil))))) (mC (.int 3)))) (mThen (mIf (mAnd (mBl (mBin gGe (mVar 4) (mBin gPow (mC (.int 10)) (mC (.int 18))))) (mBl (mBin gLt (mVar 3) (mCall gLen (mCons (mBin gIx (mVar 0) (mC (.str "cells"))) (mNil)))))) (mThen (mAsg (gPut (mVar 0) (mC (.str "left"))) (mBin gDiv (mVar 4) (mVar 1))) (mRet (mBin gMod (mVar 4) (mVar 1)))) (mNext)) (mThen (mSet 5 (mBin gMod (mBin gAdd (mBin gAdd (mBin gMod (mVar 4) (mC (.int 1000000007))) (mBin gMul (mC (.int 40503)) (mBin gIx (mVar 0) (mC (.str "count"))))) (mC (.int 17))) (mC (.int 2147483629)))) (mThen (mSet 5 (mBin gMod (mBin gAdd (mBin gAdd (mBin gMul (mVar 5) (mVar 5)) (mBin gMul (mC (.int 15485863)) (mBin gIx (mVar 0) (mC (.str "count"))))) (mC (.int 1))) (mC (.int 2147483587)))) (mRet (mBin gMod (mBin gDiv (mBin gMod (mBin gAdd (mBin gMul (mVar 5) (mVar 5)) (mBin gMul (mC (.int 7)) (mVar 5))) (mC (.int 2147483549))) (mC (.int 8))) (mVar 1))))))))))
noncomputable def m__law_draw : List AV → AH → Res AV := gc (mDef 2 4 b__law_draw)
noncomputable def b__law_words : SM := mThen (mSet 2 (mC (.str "abcdefghijklmnopqrstuvwxyz"))) (mThen (mSet 3 (mCall m__law_draw (mCons (mVar 0) (mCons (mC (.int 4)) (mNil))))) (mThen (mIf (mBl (mBin gEq (mVar 3) (mC (.int 0)))) (mThen (mSet 4 (mBin gIx (mVar 2) (mCall m__law_draw (mCons (mVar 0) (mCons (mC (.int 26)) (mNil)))))) (mRet (mBin gStep (mLcV (mLc [5] (mRng1 (mCons (mVar 1) (mNil))) (gNm 5) ((fun _ M => Res.ok true M)) (mBin gMul (mVar 4) (mBin gAdd (mVar 5) (mC (.int 1)))))) (mBin gSub (mC (.int 1)) (mBin gMul (mC (.int 2)) (mCall m__law_draw (mCons (mVar 0) (mCons (mC (.int 2)) (mNil))))))))) (mNext)) (mThen (mSet 6 (mMeth tyS gJoin (mC (.str "")) (mCons (mLcV (mLc [5] (mRng1 (mCons (mCall m__law_draw (mCons (mVar 0) (mCons (mC (.int 7)) (mNil)))) (mNil))) (gNm 5) ((fun _ M => Res.ok true M)) (mBin gIx (mVar 2) (mCall m__law_draw (mCons (mVar 0) (mCons (mC (.int 26)) (mNil))))))) (mNil)))) (mThen (mSet 7 (mCall m__law_draw (mCons (mVar 0) (mCons (mBin gAdd (mCall gLen (mCons (mVar 6) (mNil))) (mC (.int 1))) (mNil))))) (mThen (mSet 8 (mCall m__law_draw (mCons (mVar 0) (mCons (mC (.int 26)) (mNil))))) (mThen (mSet 9 (mBin gIx (mLst (mCons (mC (.int 1)) (mCons (mC (.int 3)) (mCons (mC (.int 5)) (mCons (mC (.int 7)) (mCons (mC (.int 9)) (mCons (mC (.int 25)) (mNil)))))))) (mCall m__law_draw (mCons (mVar 0) (mCons (mC (.int 6)) (mNil)))))) (mThen (mSet 10 (mLstR (mNil))) (mThen (mFor (mRng1 (mCons (mVar 1) (mNil))) (gNm 5) (mThen (mSet 11 (mBin gMul (mBin gIx (mVar 2) (mCall m__law_draw (mCons (mVar 0) (mCons (mC (.int 26)) (mNil))))) (mCall m__law_draw (mCons (mVar 0) (mCons (mC (.int 2)) (mNil)))))) (mThen (mSet 12 (mBin gIx (mVar 2) (mBin gMod (mBin gAdd (mVar 8) (mBin gMul (mVar 5) (mVar 9))) (mC (.int 26))))) (mExp (mMeth tyL gAppend (mVar 10) (mCons (mBin gAdd (mBin gAdd (mBin gAdd (mSl gSl (mVar 6) (mNoPart) (mPart (mVar 7))) (mVar 12)) (mSl gSl (mVar 6) (mPart (mVar 7)) (mNoPart))) (mVar 11)) (mNil))))))) (mRet (mVar 10))))))))))
noncomputable def m__law_words : List AV → AH → Res AV := gc (mDef 2 11 b__law_words)
noncomputable def b__law_deed : SM := mThen (mSet 4 (mC (.str "abcdefghijklmnopqrstuvwxyz "))) (mThen (mSet 5 (mMeth tyS gJoin (mC (.str "")) (mCons (mLcV (mLc [10] (mRng1 (mCons (mBin gAdd (mC (.int 1)) (mCall m__law_draw (mCons (mVar 0) (mCons (mC (.int 5)) (mNil))))) (mNil))) (gNm 10) ((fun _ M => Res.ok true M)) (mBin gIx (mVar 4) (mCall m__law_draw (mCons (mVar 0) (mCons (mC (.int 27)) (mNil))))))) (mNil)))) (mThen (mSet 6 (mCall m__law_draw (mCons (mVar 0) (mCons (mC (.int 6)) (mNil))))) (mThen (mSet 7 (mLcV (mLc [9] (mSeq (mVar 3)) (gNm 9) ((fun _ M => Res.ok true M)) (mBin gIx (mBin gIx (mBin gIx (mBin gIx (mVar 1) (mC (.str "changes"))) (mVar 9)) (mC (.int 3))) (mC (.int 0)))))) (mThen (mSet 8 (mLcV (mLc [10] (mRng1 (mCons (mCall gLen (mCons (mVar 3) (mNil))) (mNil))) (gNm 10) (mBl (mBin gEq (mBin gIx (mVar 7) (mVar 10)) (mC (.str "hang")))) (mBin gIx (mVar 3) (mVar 10))))) (mThen (mIf (mAnd (mBl (mBin gEq (mVar 6) (mC (.int 0)))) (mBl (mBin gGt (mCall gLen (mCons (mVar 2) (mNil))) (mC (.int 1))))) (mRet (mTup (mCons (mC (.str "join")) (mNil)))) (mNext)) (mThen (mIf (mAnd (mBl (mBin gEq (mVar 6) (mC (.int 1)))) (mAnd (mBl (mBin (gIn false) (mC (.str "put")) (mVar 7))) (mBl (mBin gLt (mCall gLen (mCons (mBin gIx (mVar 1) (mC (.str "hangs"))) (mNil))) (mC (.int 6)))))) (mRet (mTup (mCons (mC (.str "hang")) (mCons (mC (.int 0)) (mCons (mC (.int 1)) (mCons (mBin gIx (mLst (mCons (mC (.str "shut")) (mCons (mC (.str "wide")) (mNil)))) (mCall m__law_draw (mCons (mVar 0) (mCons (mC (.int 2)) (mNil))))) (mCons (mVar 5) (mNil)))))))) (mNext)) (mThen (mIf (mAnd (mBl (mBin gEq (mVar 6) (mC (.int 2)))) (mBl (mBin gNe (mVar 8) (mLst (mNil))))) (mRet (mTup (mCons (mC (.str "answer")) (mCons (mBin gIx (mVar 8) (mCall m__law_draw (mCons (mVar 0) (mCons (mCall gLen (mCons (mVar 8) (mNil))) (mNil))))) (mCons (mVar 5) (mNil)))))) (mNext)) (mRet (mTup (mCons (mC (.str "put")) (mCons (mC (.int 0)) (mCons (mVar 5) (mNil)))))))))))))
noncomputable def m__law_deed : List AV → AH → Res AV := gc (mDef 4 7 b__law_deed)
noncomputable def b__law_step : SM := mThen (mSet 3 (mBin gIx (mVar 2) (mCall m__law_draw (mCons (mVar 0) (mCons (mCall gLen (mCons (mVar 2) (mNil))) (mNil)))))) (mThen (mSet 4 (mCall gSorted (mCons (mBin gIx (mVar 1) (mC (.str "changes"))) (mNil)))) (mThen (mSet 5 (mIfE (mBl (mBin (gIn false) (mVar 3) (mBin gIx (mVar 1) (mC (.str "last"))))) (mLstR (mCons (mBin gIx (mBin gIx (mVar 1) (mC (.str "last"))) (mVar 3)) (mNil))) (mLstR (mNil)))) (mThen (mIf (mAnd (mBl (mBin gNe (mVar 4) (mLst (mNil)))) (mBl (mBin gLt (mCall m__law_draw (mCons (mVar 0) (mCons (mC (.int 5)) (mNil)))) (mC (.int 2))))) (mExp (mMeth tyL gAppend (mVar 5) (mCons (mBin gIx (mVar 4) (mCall m__law_draw (mCons (mVar 0) (mCons (mCall gLen (mCons (mVar 4) (mNil))) (mNil))))) (mNil)))) (mNext)) (mThen (mSet 6 (mDictT)) (mThen (mFor (mSeq (mVar 5)) (gNm 7) (mFor (mSeq (mBin gAdd (mBin gIx (mBin gIx (mVar 1) (mC (.str "knows"))) (mVar 7)) (mLst (mCons (mVar 7) (mNil))))) (gNm 8) (mAsg (gPut (mVar 6) (mVar 8)) (mC (.bl true))))) (mThen (mSet 9 (mCall gSorted (mCons (mVar 6) (mNil)))) (mThen (mSet 10 (mDictT)) (mThen (mFor (mSeq (mVar 9)) (gNm 8) (mFor (mSeq (mBin gIx (mBin gIx (mVar 1) (mC (.str "knows"))) (mVar 8))) (gNm 7) (mAsg (gPut (mVar 10) (mVar 7)) (mC (.bl true))))) (mThen (mSet 11 (mCall gTuple (mCons (mLcV (mLc [8] (mSeq (mVar 9)) (gNm 8) (mBl (mBin (gIn true) (mVar 8) (mVar 10))) (mVar 8))) (mNil)))) (mThen (mSet 12 (mTup (mCons (mBin gAdd (mC (.int 1)) (mCallK gMaxDf (mCons (mLcV (mLc [8] (mSeq (mVar 9)) (gNm 8) ((fun _ M => Res.ok true M)) (mBin gIx (mVar 8) (mC (.int 0))))) (mNil)) (mCons (mC (.int 0)) mNil))) (mCons (mVar 3) (mNil))))) (mThen (mSet 13 (mCall m__law_deed (mCons (mVar 0) (mCons (mVar 1) (mCons (mVar 11) (mCons (mVar 9) (mNil))))))) (mThen (mIf (mBl (mBin gEq (mBin gIx (mVar 13) (mC (.int 0))) (mC (.str "hang")))) (mExp (mMeth tyL gAppend (mBin gIx (mVar 1) (mC (.str "hangs"))) (mCons (mVar 12) (mNil)))) (mNext)) (mThen (mAsg (gPut (mBin gIx (mVar 1) (mC (.str "changes"))) (mVar 12)) (mTup (mCons (mVar 12) (mCons (mBin gIx (mVar 2) (mCall m__law_draw (mCons (mVar 0) (mCons (mCall gLen (mCons (mVar 2) (mNil))) (mNil))))) (mCons (mVar 11) (mCons (mVar 13) (mNil))))))) (mThen (mAsg (gPut (mBin gIx (mVar 1) (mC (.str "knows"))) (mVar 12)) (mVar 9)) (mAsg (gPut (mBin gIx (mVar 1) (mC (.str "last"))) (mVar 3)) (mVar 12))))))))))))))))
noncomputable def m__law_step : List AV → AH → Res AV := gc (mDef 3 11 b__law_step)
noncomputable def b__law_world : SM := mThen (mSet 3 (mDisp (kCons (.inr "changes") (mDictT) (kCons (.inr "knows") (mDictT) (kCons (.inr "last") (mDictK) (kCons (.inr "hangs") (mLstR (mNil)) (kNil))))))) (mThen (mFor (mRng1 (mCons (mVar 2) (mNil))) (gNm 4) (mExp (mCall m__law_step (mCons (mVar 0) (mCons (mVar 3) (mCons (mVar 1) (mNil))))))) (mRet (mVar 3)))
noncomputable def m__law_world : List AV → AH → Res AV := gc (mDef 3 2 b__law_world)
noncomputable def b__law_ledger : SM := mRet (mCall gTuple (mCons (mLcV (mLc [2] (mSeq (mCall gSorted (mCons (mBin gIx (mVar 0) (mC (.str "changes"))) (mNil)))) (gNm 2) (mBl (mBin (gIn false) (mVar 2) (mVar 1))) (mBin gIx (mBin gIx (mVar 0) (mC (.str "changes"))) (mVar 2)))) (mNil)))
noncomputable def m__law_ledger : List AV → AH → Res AV := gc (mDef 2 1 b__law_ledger)
noncomputable def b__law_road : SM := mThen (mSet 3 (mCall gListR (mCons (mVar 2) (mNil)))) (mThen (mSet 4 (mLstR (mNil))) (mThen (mSet 5 (mCall m__law_draw (mCons (mVar 0) (mCons (mC (.int 3)) (mNil))))) (mThen (mWhile 1000000 (mBl (mBin gNe (mVar 3) (mLst (mNil)))) (mThen (mSet 7 (mLcV (mLc [6] (mSeq (mVar 3)) (gNm 6) (mBl (mBin gEq (mLcV (mLc [8] (mSeq (mBin gIx (mBin gIx (mVar 1) (mC (.str "knows"))) (mVar 6))) (gNm 8) (mBl (mBin (gIn false) (mVar 8) (mVar 3))) (mVar 8))) (mLst (mNil)))) (mVar 6)))) (mThen (mSet 6 (mBin gIx (mVar 7) (mBin gIx (mLst (mCons (mCall m__law_draw (mCons (mVar 0) (mCons (mCall gLen (mCons (mVar 7) (mNil))) (mNil)))) (mCons (mC (.int 0)) (mCons (mBin gSub (mCall gLen (mCons (mVar 7) (mNil))) (mC (.int 1))) (mNil))))) (mVar 5)))) (mThen (mExp (mMeth tyL gRemove (mVar 3) (mCons (mVar 6) (mNil)))) (mExp (mMeth tyL gAppend (mVar 4) (mCons (mVar 6) (mNil)))))))) (mRet (mCall gTucOf (mCons (mVar 4) (mNil)))))))
noncomputable def m__law_road : List AV → AH → Res AV := gc (mDef 3 6 b__law_road)
noncomputable def b__law_wide : SM := mThen (mSet 1 (mDisp (kCons (.inr "changes") (mDictT) (kCons (.inr "knows") (mDictT) (kCons (.inr "last") (mDictK) (kCons (.inr "hangs") (mLstR (mNil)) (kNil))))))) (mThen (mFor (mSeq (mVar 0)) (gNm 2) (mThen (mAsg (gPut (mBin gIx (mVar 1) (mC (.str "changes"))) (mTup (mCons (mC (.int 1)) (mCons (mVar 2) (mNil))))) (mTup (mCons (mTup (mCons (mC (.int 1)) (mCons (mVar 2) (mNil)))) (mCons (mVar 2) (mCons (mTup (mNil)) (mCons (mTup (mCons (mC (.str "put")) (mCons (mC (.int 0)) (mCons (mC (.str "a")) (mNil))))) (mNil))))))) (mAsg (gPut (mBin gIx (mVar 1) (mC (.str "knows"))) (mTup (mCons (mC (.int 1)) (mCons (mVar 2) (mNil))))) (mLst (mNil))))) (mRet (mVar 1)))
noncomputable def m__law_wide : List AV → AH → Res AV := gc (mDef 1 2 b__law_wide)
noncomputable def b__law_right : SM := mThen (mIf (mOr (mNot (mTru (mUn (gIsi "tuple") (mVar 3)))) (mBl (mBin gNe (mLcV (mLc [4] (mSeq (mVar 3)) (gNm 4) (mOr (mNot (mTru (mUn (gIsi "int") (mVar 4)))) (mTru (mUn (gIsi "bool") (mVar 4)))) (mVar 4))) (mLst (mNil))))) (mRet (mC (.bl false))) (mNext)) (mThen (mSet 5 (mCall gListR (mCons (mVar 1) (mNil)))) (mThen (mFor (mSeq (mVar 3)) (gNm 4) (mThen (mIf (mOr (mNot (mBl (mChain gLe gLt (mC (.int 0)) (mVar 4) (mBin gSub (mCall gLen (mCons (mVar 5) (mNil))) (mC (.int 1)))))) (mBl (mBin (gIn false) (mBin gIx (mVar 5) (mVar 4)) (mBin gIx (mBin gIx (mVar 0) (mC (.str "knows"))) (mBin gIx (mVar 5) (mBin gAdd (mVar 4) (mC (.int 1)))))))) (mRet (mC (.bl false))) (mNext)) (mAsg (gPutSl (mVar 5) (mPart (mVar 4)) (mPart (mBin gAdd (mVar 4) (mC (.int 2))))) (mLst (mCons (mBin gIx (mVar 5) (mBin gAdd (mVar 4) (mC (.int 1)))) (mCons (mBin gIx (mVar 5) (mVar 4)) (mNil))))))) (mThen (mSet 6 (mC (.int 0))) (mThen (mFor (mRng1 (mCons (mCall gLen (mCons (mVar 1) (mNil))) (mNil))) (gNm 7) (mSet 6 (mBin gAdd (mVar 6) (mCall gLen (mCons (mLcV (mLc [8] (mSeq (mSl gSl (mVar 1) (mNoPart) (mPart (mVar 7)))) (gNm 8) (mBl (mBin gGt (mMeth tyT gIndexT (mVar 2) (mCons (mVar 8) (mNil))) (mMeth tyT gIndexT (mVar 2) (mCons (mBin gIx (mVar 1) (mVar 7)) (mNil))))) (mVar 8))) (mNil)))))) (mRet (mAndV (mBin gEq (mCall gTuple (mCons (mVar 5) (mNil))) (mVar 2)) (mBin gEq (mCall gLen (mCons (mVar 3) (mNil))) (mVar 6))))))))
noncomputable def m__law_right : List AV → AH → Res AV := gc (mDef 4 5 b__law_right)
noncomputable def b_law : SM := mThen (mSet 1 (mCall m__law_feed (mCons (mVar 0) (mNil)))) (mThen (mSet 2 (mCall m__law_words (mCons (mVar 1) (mCons (mBin gAdd (mC (.int 1)) (mCall m__law_draw (mCons (mVar 1) (mCons (mC (.int 6)) (mNil))))) (mNil))))) (mThen (mIf (mBl (mBin gEq (mCall m__law_draw (mCons (mVar 1) (mCons (mC (.int 6)) (mNil)))) (mC (.int 0)))) (mSet 3 (mCall m__law_wide (mCons (mVar 2) (mNil)))) (mSet 3 (mCall m__law_world (mCons (mVar 1) (mCons (mVar 2) (mCons (mCall m__law_draw (mCons (mVar 1) (mCons (mC (.int 17)) (mNil)))) (mNil))))))) (mThen (mSet 4 (mCall gSorted (mCons (mBin gIx (mVar 3) (mC (.str "changes"))) (mNil)))) (mThen (mSet 5 (mCall m__law_ledger (mCons (mVar 3) (mCons (mVar 4) (mNil))))) (mThen (mSet 6 (mLcV (mLc [11] (mRng1 (mCons (mC (.int 3)) (mNil))) (gNm 11) ((fun _ M => Res.ok true M)) (mCall m__law_road (mCons (mVar 1) (mCons (mVar 3) (mCons (mVar 4) (mNil)))))))) (mThen (mSet 7 (mCall gRepr (mCons (mTup (mCons (mVar 5) (mCons (mVar 6) (mNil)))) (mNil)))) (mThen (mFor (mSeq (mTup (mCons (mTup (mCons (mC (.int 0)) (mCons (mC (.int 1)) (mNil)))) (mCons (mTup (mCons (mC (.int 1)) (mCons (mC (.int 0)) (mNil)))) (mCons (mTup (mCons (mC (.int 1)) (mCons (mC (.int 2)) (mNil)))) (mCons (mTup (mCons (mC (.int 2)) (mCons (mC (.int 1)) (mNil)))) (mCons (mTup (mCons (mC (.int 2)) (mCons (mC (.int 0)) (mNil)))) (mCons (mTup (mCons (mC (.int 0)) (mCons (mC (.int 2)) (mNil)))) (mCons (mTup (mCons (mC (.int 2)) (mCons (mC (.int 2)) (mNil)))) (mCons (mTup (mCons (mC (.int 0)) (mCons (mC (.int 1)) (mNil)))) (mNil))))))))))) (gTp 2 (gsCons (gNm 8) (gsCons (gNm 9) (gsNil)))) (mThen (mSet 10 (mCall m_exchange_paper (mCons (mVar 5) (mCons (mBin gIx (mVar 6) (mVar 8)) (mCons (mBin gIx (mVar 6) (mVar 9)) (mNil)))))) (mIf (mNot (mTru (mCall m__law_right (mCons (mVar 3) (mCons (mBin gIx (mVar 6) (mVar 8)) (mCons (mBin gIx (mVar 6) (mVar 9)) (mCons (mVar 10) (mNil)))))))) (mRet (mC (.bl false))) (mNext)))) (mRet (mBin gEq (mCall gRepr (mCons (mTup (mCons (mVar 5) (mCons (mVar 6) (mNil)))) (mNil))) (mVar 7))))))))))
noncomputable def m_law : List AV → AH → Res AV := gc (mDef 1 11 b_law)
/-! ### what the top has written -/
structure Txt (K : PySem.W.Frag) (mg : Str → Option Value) (f : Nat → Addr) (fd : Nat → FuncData) : Prop where
  d_exchanged : Dn K mg "exchanged" s_exchanged ["road", "k"] (f 0) (fd 0)
  d_first_unlike : Dn K mg "first_unlike" s_first_unlike ["road", "places"] (f 1) (fd 1)
  d_exchange_paper : Dn K mg "exchange_paper" s_exchange_paper ["ledger", "one", "other"] (f 2) (fd 2)
  d__law_feed : Dn K mg "_law_feed" s__law_feed ["_law_script"] (f 3) (fd 3)
  d__law_draw : Dn K mg "_law_draw" s__law_draw ["_law_feed_here", "_law_many"] (f 4) (fd 4)
  d__law_words : Dn K mg "_law_words" s__law_words ["_law_feed_here", "_law_many"] (f 5) (fd 5)
  d__law_deed : Dn K mg "_law_deed" s__law_deed ["_law_feed_here", "_law_world_here", "_law_base", "_law_floor"] (f 6) (fd 6)
  d__law_step : Dn K mg "_law_step" s__law_step ["_law_feed_here", "_law_world_here", "_law_words_here"] (f 7) (fd 7)
  d__law_world : Dn K mg "_law_world" s__law_world ["_law_feed_here", "_law_words_here", "_law_many"] (f 8) (fd 8)
  d__law_ledger : Dn K mg "_law_ledger" s__law_ledger ["_law_world_here", "_law_names"] (f 9) (fd 9)
  d__law_road : Dn K mg "_law_road" s__law_road ["_law_feed_here", "_law_world_here", "_law_names"] (f 10) (fd 10)
  d__law_wide : Dn K mg "_law_wide" s__law_wide ["_law_words_here"] (f 11) (fd 11)
  d__law_right : Dn K mg "_law_right" s__law_right ["_law_world_here", "_law_one", "_law_other", "_law_told"] (f 12) (fd 12)
  d_law : Dn K mg "law" s_law ["_law_script"] (f 13) (fd 13)
  z_bool : mg "bool" = none
  z_enumerate : mg "enumerate" = none
  z_int : mg "int" = none
  z_isinstance : mg "isinstance" = none
  z_len : mg "len" = none
  z_list : mg "list" = none
  z_max : mg "max" = none
  z_range : mg "range" = none
  z_repr : mg "repr" = none
  z_sorted : mg "sorted" = none
  z_tuple : mg "tuple" = none
section
variable {P : Program} {w : World} {K : PySem.W.Frag} {mg : Str → Option Value} {base : Heap} {f : Nat → Addr} {fd : Nat → FuncData}
theorem ok_exchanged (Z : Txt K mg f fd) : GnOk P w K mg base 1 (f 0) (fd 0) ["road", "k"] (spM ⟨K, mg⟩ m_exchanged) := fn_ok Z.d_exchanged.F sc_exchanged rfl rfl fun cdv A outer s H E T =>
  (ss_one (s_ret (e_bin x_add o_add (e_bin x_add o_add (e_sl (e_name (pv 0)) o_none (o_some (e_name (pv 1)))) (e_tup (a_cons (e_ix T.u1 (e_name (pv 0)) (e_bin x_add o_add (e_name (pv 1)) e_int)) (a_cons (e_ix T.u1 (e_name (pv 0)) (e_name (pv 1))) a_nil)))) (e_sl (e_name (pv 0)) (o_some (e_bin x_add o_add (e_name (pv 1)) e_int)) o_none))))
theorem ok_first_unlike (Z : Txt K mg f fd) : GnOk P w K mg base 1 (f 1) (fd 1) ["road", "places"] (spM ⟨K, mg⟩ m_first_unlike) := fn_ok Z.d_first_unlike.F sc_first_unlike rfl rfl fun cdv A outer s H E T =>
  (ss_cons (s_for T.own rfl (r_rng1 rfl Z.z_range (a_cons (e_bin op_sub o_sub (e_callB x_len o_len rfl Z.z_len (by kernel_rfl) (a_cons (e_name (pv 0)) a_nil)) e_int) a_nil)) (g_name (pg_name (i := 2) sc_first_unlike.nd rfl (Or.inl rfl))) (ss_one (s_if (t_cmp x_gt (by with_unfolding_all rfl) o_ord (e_ix T.u1 (e_name (pv 1)) (e_ix T.u1 (e_name (pv 0)) (e_name (pv 2)))) (e_ix T.u1 (e_name (pv 1)) (e_ix T.u1 (e_name (pv 0)) (e_bin x_add o_add (e_name (pv 2)) e_int)))) (ss_one (s_ret (e_name (pv 2)))) ss_nil))) (ss_one (s_ret e_non)))
theorem ok_exchange_paper (Z : Txt K mg f fd) : GnOk P w K mg base 2 (f 2) (fd 2) ["ledger", "one", "other"] (spM ⟨K, mg⟩ m_exchange_paper) := fn_ok Z.d_exchange_paper.F sc_exchange_paper rfl rfl fun cdv A outer s H E T =>
  (ss_cons (s_set (k := 3) (ps_set (i := 3) sc_exchange_paper.nd rfl (Or.inl rfl)) e_dictT) (ss_cons (s_for T.own rfl (i_enumT rfl Z.z_enumerate (a_cons (e_name (pv 2)) a_nil)) (g_tup rfl (gs_cons (g_name (pg_name (i := 4) sc_exchange_paper.nd rfl (Or.inl rfl))) (gs_cons (g_name (pg_name (i := 5) sc_exchange_paper.nd rfl (Or.inl rfl))) gs_nil))) (ss_one (s_asg (e_name (pv 4)) (g_put T.u1 (e_name (pv 3)) (e_name (pv 5)))))) (ss_cons (s_set (k := 6) (ps_set (i := 6) sc_exchange_paper.nd rfl (Or.inl rfl)) (e_name (pv 1))) (ss_cons (s_set (k := 7) (ps_set (i := 7) sc_exchange_paper.nd rfl (Or.inl rfl)) (e_lstR a_nil)) (ss_cons (s_set (k := 8) (ps_set (i := 8) sc_exchange_paper.nd rfl (Or.inl rfl)) (c_call Z.d_first_unlike (ok_first_unlike Z) T (by decide) rfl (a_cons (e_name (pv 6)) (a_cons (e_name (pv 3)) a_nil)))) (ss_cons (s_while 1000000 T.own (t_cmp op_notN (by with_unfolding_all rfl) o_notN (e_name (pv 8)) e_non) (ss_cons (s_expr (e_meth PySem.F.plainAttrs_list PySem.F.slot_list_append PySem.F.type_list_append mt_append ty_l o_append (e_name (pv 7)) (a_cons (e_name (pv 8)) a_nil))) (ss_cons (s_set (k := 6) (ps_set (i := 6) sc_exchange_paper.nd rfl (Or.inl rfl)) (c_call Z.d_exchanged (ok_exchanged Z) T (by decide) rfl (a_cons (e_name (pv 6)) (a_cons (e_name (pv 8)) a_nil)))) (ss_one (s_set (k := 8) (ps_set (i := 8) sc_exchange_paper.nd rfl (Or.inl rfl)) (c_call Z.d_first_unlike (ok_first_unlike Z) T (by decide) rfl (a_cons (e_name (pv 6)) (a_cons (e_name (pv 3)) a_nil)))))))) (ss_one (s_ret (e_callTy x_tuple o_tuple rfl Z.z_tuple (by kernel_rfl) (a_cons (e_name (pv 7)) a_nil))))))))))
theorem ok__law_feed (Z : Txt K mg f fd) : GnOk P w K mg base 1 (f 3) (fd 3) ["_law_script"] (spM ⟨K, mg⟩ m__law_feed) := fn_ok Z.d__law_feed.F sc__law_feed rfl rfl fun cdv A outer s H E T =>
  (ss_one (s_ret (e_disp (d_cons (e_callTy x_list o_listV rfl Z.z_list (by kernel_rfl) (a_cons (e_sl (e_name (pv 0)) o_none (o_some e_int)) a_nil)) (d_cons e_int (d_cons e_int (d_cons e_int d_nil)))))))
theorem ok__law_draw (Z : Txt K mg f fd) : GnOk P w K mg base 1 (f 4) (fd 4) ["_law_feed_here", "_law_many"] (spM ⟨K, mg⟩ m__law_draw) := fn_ok Z.d__law_draw.F sc__law_draw rfl rfl fun cdv A outer s H E T =>
  (ss_cons (s_asg (e_bin x_add o_add (e_ix T.u1 (e_name (pv 0)) e_str) e_int) (g_put T.u1 (e_name (pv 0)) e_str)) (ss_cons (s_if (t_cmp x_gt (by with_unfolding_all rfl) o_ord (e_ix T.u1 (e_name (pv 0)) e_str) e_int) (ss_cons (s_set (k := 2) (ps_set (i := 2) sc__law_draw.nd rfl (Or.inl rfl)) (e_bin op_modN o_mod (e_ix T.u1 (e_name (pv 0)) e_str) (e_name (pv 1)))) (ss_cons (s_asg (e_bin op_fdivN o_div (e_ix T.u1 (e_name (pv 0)) e_str) (e_name (pv 1))) (g_put T.u1 (e_name (pv 0)) e_str)) (ss_one (s_ret (e_name (pv 2)))))) ss_nil) (ss_cons (s_set (k := 3) (ps_set (i := 3) sc__law_draw.nd rfl (Or.inl rfl)) (e_ix T.u1 (e_name (pv 0)) e_str)) (ss_cons (s_asg (e_bin x_add o_add (e_name (pv 3)) e_int) (g_put T.u1 (e_name (pv 0)) e_str)) (ss_cons (s_set (k := 4) (ps_set (i := 4) sc__law_draw.nd rfl (Or.inl rfl)) (e_ifE (t_cmp (op_neP T.u64) (by with_unfolding_all rfl) o_ne (e_ix T.u1 (e_name (pv 0)) e_str) (e_lst a_nil)) (e_ix T.u1 (e_ix T.u1 (e_name (pv 0)) e_str) (e_bin op_modN o_mod (e_name (pv 3)) (e_callB x_len o_len rfl Z.z_len (by kernel_rfl) (a_cons (e_ix T.u1 (e_name (pv 0)) e_str) a_nil)))) e_int)) (ss_cons (s_if (PW.pt (t_and (t_cmp x_ge (by with_unfolding_all rfl) o_ord (e_name (pv 4)) (e_bin op_pow o_pow e_int e_int)) (t_and1 (t_cmp x_lt (by with_unfolding_all rfl) o_ord (e_name (pv 3)) (e_callB x_len o_len rfl Z.z_len (by kernel_rfl) (a_cons (e_ix T.u1 (e_name (pv 0)) e_str) a_nil)))))) (ss_cons (s_asg (e_bin op_fdivN o_div (e_name (pv 4)) (e_name (pv 1))) (g_put T.u1 (e_name (pv 0)) e_str)) (ss_one (s_ret (e_bin op_modN o_mod (e_name (pv 4)) (e_name (pv 1)))))) ss_nil) (ss_cons (s_set (k := 5) (ps_set (i := 5) sc__law_draw.nd rfl (Or.inl rfl)) (e_bin op_modN o_mod (e_bin x_add o_add (e_bin x_add o_add (e_bin op_modN o_mod (e_name (pv 4)) e_int) (e_bin x_mul o_mul e_int (e_ix T.u1 (e_name (pv 0)) e_str))) e_int) e_int)) (ss_cons (s_set (k := 5) (ps_set (i := 5) sc__law_draw.nd rfl (Or.inl rfl)) (e_bin op_modN o_mod (e_bin x_add o_add (e_bin x_add o_add (e_bin x_mul o_mul (e_name (pv 5)) (e_name (pv 5))) (e_bin x_mul o_mul e_int (e_ix T.u1 (e_name (pv 0)) e_str))) e_int) e_int)) (ss_one (s_ret (e_bin op_modN o_mod (e_bin op_fdivN o_div (e_bin op_modN o_mod (e_bin x_add o_add (e_bin x_mul o_mul (e_name (pv 5)) (e_name (pv 5))) (e_bin x_mul o_mul e_int (e_name (pv 5)))) e_int) e_int) (e_name (pv 1)))))))))))))
theorem ok__law_words (Z : Txt K mg f fd) : GnOk P w K mg base 2 (f 5) (fd 5) ["_law_feed_here", "_law_many"] (spM ⟨K, mg⟩ m__law_words) := fn_ok Z.d__law_words.F sc__law_words rfl rfl fun cdv A outer s H E T =>
  (ss_cons (s_set (k := 2) (ps_set (i := 2) sc__law_words.nd rfl (Or.inr rfl)) e_str) (ss_cons (s_set (k := 3) (ps_set (i := 3) sc__law_words.nd rfl (Or.inl rfl)) (c_call Z.d__law_draw (ok__law_draw Z) T (by decide) rfl (a_cons (e_name (pv 0)) (a_cons e_int a_nil)))) (ss_cons (s_if (t_cmp (op_eqP T.u64) (by with_unfolding_all rfl) o_eq (e_name (pv 3)) e_int) (ss_cons (s_set (k := 4) (ps_set (i := 4) sc__law_words.nd rfl (Or.inr rfl)) (e_ix T.u1 (e_name (pv 2)) (c_call Z.d__law_draw (ok__law_draw Z) T (by decide) rfl (a_cons (e_name (pv 0)) (a_cons e_int a_nil))))) (ss_one (s_ret (e_step (e_lc (own := [("_law_k", 5)]) rfl sc__law_words.nd (r_rng1 rfl Z.z_range (a_cons (e_name (pv 1)) a_nil)) (blkOk_by (by kernel_rfl)) (fun s H C cl fp => ⟨(gx_name (pg_name (i := 5) sc__law_words.nd rfl (Or.inl rfl))), ts_nil, (e_bin x_mul o_mul (e_name (pv 4)) (e_bin x_add o_add (e_name (pv 5)) e_int))⟩)) (e_bin op_sub o_sub e_int (e_bin x_mul o_mul e_int (c_call Z.d__law_draw (ok__law_draw Z) T (by decide) rfl (a_cons (e_name (pv 0)) (a_cons e_int a_nil))))))))) ss_nil) (ss_cons (s_set (k := 6) (ps_set (i := 6) sc__law_words.nd rfl (Or.inl rfl)) (e_meth PySem.F.plainAttrs_str PySem.F.slot_str_join PySem.F.type_str_join x_join ty_s o_join e_str (a_cons (e_lc (own := [("_law_k", 5)]) rfl sc__law_words.nd (r_rng1 rfl Z.z_range (a_cons (c_call Z.d__law_draw (ok__law_draw Z) T (by decide) rfl (a_cons (e_name (pv 0)) (a_cons e_int a_nil))) a_nil)) (blkOk_by (by kernel_rfl)) (fun s H C cl fp => ⟨(gx_name (pg_name (i := 5) sc__law_words.nd rfl (Or.inl rfl))), ts_nil, (e_ix T.blk.u1 (e_name (pv 2)) (c_call Z.d__law_draw (ok__law_draw Z) T.blk (by decide) rfl (a_cons (e_name (pv 0)) (a_cons e_int a_nil))))⟩)) a_nil))) (ss_cons (s_set (k := 7) (ps_set (i := 7) sc__law_words.nd rfl (Or.inl rfl)) (c_call Z.d__law_draw (ok__law_draw Z) T (by decide) rfl (a_cons (e_name (pv 0)) (a_cons (e_bin x_add o_add (e_callB x_len o_len rfl Z.z_len (by kernel_rfl) (a_cons (e_name (pv 6)) a_nil)) e_int) a_nil)))) (ss_cons (s_set (k := 8) (ps_set (i := 8) sc__law_words.nd rfl (Or.inl rfl)) (c_call Z.d__law_draw (ok__law_draw Z) T (by decide) rfl (a_cons (e_name (pv 0)) (a_cons e_int a_nil)))) (ss_cons (s_set (k := 9) (ps_set (i := 9) sc__law_words.nd rfl (Or.inl rfl)) (e_ix T.u1 (e_lst (a_cons e_int (a_cons e_int (a_cons e_int (a_cons e_int (a_cons e_int (a_cons e_int a_nil))))))) (c_call Z.d__law_draw (ok__law_draw Z) T (by decide) rfl (a_cons (e_name (pv 0)) (a_cons e_int a_nil))))) (ss_cons (s_set (k := 10) (ps_set (i := 10) sc__law_words.nd rfl (Or.inl rfl)) (e_lstR a_nil)) (ss_cons (s_for T.own rfl (r_rng1 rfl Z.z_range (a_cons (e_name (pv 1)) a_nil)) (g_name (pg_name (i := 5) sc__law_words.nd rfl (Or.inl rfl))) (ss_cons (s_set (k := 11) (ps_set (i := 11) sc__law_words.nd rfl (Or.inl rfl)) (e_bin x_mul o_mul (e_ix T.u1 (e_name (pv 2)) (c_call Z.d__law_draw (ok__law_draw Z) T (by decide) rfl (a_cons (e_name (pv 0)) (a_cons e_int a_nil)))) (c_call Z.d__law_draw (ok__law_draw Z) T (by decide) rfl (a_cons (e_name (pv 0)) (a_cons e_int a_nil))))) (ss_cons (s_set (k := 12) (ps_set (i := 12) sc__law_words.nd rfl (Or.inl rfl)) (e_ix T.u1 (e_name (pv 2)) (e_bin op_modN o_mod (e_bin x_add o_add (e_name (pv 8)) (e_bin x_mul o_mul (e_name (pv 5)) (e_name (pv 9)))) e_int))) (ss_one (s_expr (e_meth PySem.F.plainAttrs_list PySem.F.slot_list_append PySem.F.type_list_append mt_append ty_l o_append (e_name (pv 10)) (a_cons (e_bin x_add o_add (e_bin x_add o_add (e_bin x_add o_add (e_sl (e_name (pv 6)) o_none (o_some (e_name (pv 7)))) (e_name (pv 12))) (e_sl (e_name (pv 6)) (o_some (e_name (pv 7))) o_none)) (e_name (pv 11))) a_nil))))))) (ss_one (s_ret (e_name (pv 10)))))))))))))
theorem ok__law_deed (Z : Txt K mg f fd) : GnOk P w K mg base 2 (f 6) (fd 6) ["_law_feed_here", "_law_world_here", "_law_base", "_law_floor"] (spM ⟨K, mg⟩ m__law_deed) := fn_ok Z.d__law_deed.F sc__law_deed rfl rfl fun cdv A outer s H E T =>
  (ss_cons (s_set (k := 4) (ps_set (i := 4) sc__law_deed.nd rfl (Or.inr rfl)) e_str) (ss_cons (s_set (k := 5) (ps_set (i := 5) sc__law_deed.nd rfl (Or.inl rfl)) (e_meth PySem.F.plainAttrs_str PySem.F.slot_str_join PySem.F.type_str_join x_join ty_s o_join e_str (a_cons (e_lc (own := [("_law_k", 10)]) rfl sc__law_deed.nd (r_rng1 rfl Z.z_range (a_cons (e_bin x_add o_add e_int (c_call Z.d__law_draw (ok__law_draw Z) T (by decide) rfl (a_cons (e_name (pv 0)) (a_cons e_int a_nil)))) a_nil)) (blkOk_by (by kernel_rfl)) (fun s H C cl fp => ⟨(gx_name (pg_name (i := 10) sc__law_deed.nd rfl (Or.inl rfl))), ts_nil, (e_ix T.blk.u1 (e_name (pv 4)) (c_call Z.d__law_draw (ok__law_draw Z) T.blk (by decide) rfl (a_cons (e_name (pv 0)) (a_cons e_int a_nil))))⟩)) a_nil))) (ss_cons (s_set (k := 6) (ps_set (i := 6) sc__law_deed.nd rfl (Or.inl rfl)) (c_call Z.d__law_draw (ok__law_draw Z) T (by decide) rfl (a_cons (e_name (pv 0)) (a_cons e_int a_nil)))) (ss_cons (s_set (k := 7) (ps_set (i := 7) sc__law_deed.nd rfl (Or.inr rfl)) (e_lc (own := [("_law_name", 9)]) rfl sc__law_deed.nd (i_seq (e_name (pv 3))) (blkOk_by (by kernel_rfl)) (fun s H C cl fp => ⟨(gx_name (pg_name (i := 9) sc__law_deed.nd rfl (Or.inl rfl))), ts_nil, (e_ix T.blk.u1 (e_ix T.blk.u1 (e_ix T.blk.u1 (e_ix T.blk.u1 (e_name (pv 1)) e_str) (e_name (pv 9))) e_int) e_int)⟩))) (ss_cons (s_setLc (k := 8) (own := [("_law_k", 10)]) rfl sc__law_deed.nd rfl rfl (by with_unfolding_all rfl) (r_rng1 rfl Z.z_range (a_cons (e_callB x_len o_len rfl Z.z_len (by kernel_rfl) (a_cons (e_name (pv 3)) a_nil)) a_nil)) (blkOk_by (by kernel_rfl)) (fun s H C cl fp => ⟨(gx_name (pg_name (i := 10) sc__law_deed.nd rfl (Or.inl rfl))), (ts_one (t_cmp (op_eqP T.blk.u64) (by with_unfolding_all rfl) o_eq (e_ix T.blk.u1 (e_name (pv 7)) (e_name (pv 10))) e_str)), (e_ix T.blk.u1 (e_name (pv 3)) (e_name (pv 10)))⟩)) (ss_cons (s_if (PW.pt (t_and (t_cmp (op_eqP T.u64) (by with_unfolding_all rfl) o_eq (e_name (pv 6)) e_int) (t_and1 (t_cmp x_gt (by with_unfolding_all rfl) o_ord (e_callB x_len o_len rfl Z.z_len (by kernel_rfl) (a_cons (e_name (pv 2)) a_nil)) e_int)))) (ss_one (s_ret (e_tup (a_cons e_str a_nil)))) ss_nil) (ss_cons (s_if (PW.pt (t_and (t_cmp (op_eqP T.u64) (by with_unfolding_all rfl) o_eq (e_name (pv 6)) e_int) (t_and (t_cmp (x_in T.u64) (by with_unfolding_all rfl) o_in e_str (e_name (pv 7))) (t_and1 (t_cmp x_lt (by with_unfolding_all rfl) o_ord (e_callB x_len o_len rfl Z.z_len (by kernel_rfl) (a_cons (e_ix T.u1 (e_name (pv 1)) e_str) a_nil)) e_int))))) (ss_one (s_ret (e_tup (a_cons e_str (a_cons e_int (a_cons e_int (a_cons (e_ix T.u1 (e_lst (a_cons e_str (a_cons e_str a_nil))) (c_call Z.d__law_draw (ok__law_draw Z) T (by decide) rfl (a_cons (e_name (pv 0)) (a_cons e_int a_nil)))) (a_cons (e_name (pv 5)) a_nil)))))))) ss_nil) (ss_cons (s_if (PW.pt (t_and (t_cmp (op_eqP T.u64) (by with_unfolding_all rfl) o_eq (e_name (pv 6)) e_int) (t_and1 (t_cmp (op_neP T.u64) (by with_unfolding_all rfl) o_ne (e_name (pv 8)) (e_lst a_nil))))) (ss_one (s_ret (e_tup (a_cons e_str (a_cons (e_ix T.u1 (e_name (pv 8)) (c_call Z.d__law_draw (ok__law_draw Z) T (by decide) rfl (a_cons (e_name (pv 0)) (a_cons (e_callB x_len o_len rfl Z.z_len (by kernel_rfl) (a_cons (e_name (pv 8)) a_nil)) a_nil)))) (a_cons (e_name (pv 5)) a_nil)))))) ss_nil) (ss_one (s_ret (e_tup (a_cons e_str (a_cons e_int (a_cons (e_name (pv 5)) a_nil))))))))))))))
theorem ok__law_step (Z : Txt K mg f fd) : GnOk P w K mg base 3 (f 7) (fd 7) ["_law_feed_here", "_law_world_here", "_law_words_here"] (spM ⟨K, mg⟩ m__law_step) := fn_ok Z.d__law_step.F sc__law_step rfl rfl fun cdv A outer s H E T =>
  (ss_cons (s_set (k := 3) (ps_set (i := 3) sc__law_step.nd rfl (Or.inl rfl)) (e_ix T.u1 (e_name (pv 2)) (c_call Z.d__law_draw (ok__law_draw Z) T (by decide) rfl (a_cons (e_name (pv 0)) (a_cons (e_callB x_len o_len rfl Z.z_len (by kernel_rfl) (a_cons (e_name (pv 2)) a_nil)) a_nil))))) (ss_cons (s_set (k := 4) (ps_set (i := 4) sc__law_step.nd rfl (Or.inl rfl)) (e_callB (x_sorted rfl T.u64) o_sorted rfl Z.z_sorted (by kernel_rfl) (a_cons (e_ix T.u1 (e_name (pv 1)) e_str) a_nil))) (ss_cons (s_set (k := 5) (ps_set (i := 5) sc__law_step.nd rfl (Or.inl rfl)) (e_ifE (t_cmp (x_in T.u64) (by with_unfolding_all rfl) o_in (e_name (pv 3)) (e_ix T.u1 (e_name (pv 1)) e_str)) (e_lstR (a_cons (e_ix T.u1 (e_ix T.u1 (e_name (pv 1)) e_str) (e_name (pv 3))) a_nil)) (e_lstR a_nil))) (ss_cons (s_if (PW.pt (t_and (t_cmp (op_neP T.u64) (by with_unfolding_all rfl) o_ne (e_name (pv 4)) (e_lst a_nil)) (t_and1 (t_cmp x_lt (by with_unfolding_all rfl) o_ord (c_call Z.d__law_draw (ok__law_draw Z) T (by decide) rfl (a_cons (e_name (pv 0)) (a_cons e_int a_nil))) e_int)))) (ss_one (s_expr (e_meth PySem.F.plainAttrs_list PySem.F.slot_list_append PySem.F.type_list_append mt_append ty_l o_append (e_name (pv 5)) (a_cons (e_ix T.u1 (e_name (pv 4)) (c_call Z.d__law_draw (ok__law_draw Z) T (by decide) rfl (a_cons (e_name (pv 0)) (a_cons (e_callB x_len o_len rfl Z.z_len (by kernel_rfl) (a_cons (e_name (pv 4)) a_nil)) a_nil)))) a_nil)))) ss_nil) (ss_cons (s_set (k := 6) (ps_set (i := 6) sc__law_step.nd rfl (Or.inl rfl)) e_dictT) (ss_cons (s_for T.own rfl (i_seq (e_name (pv 5))) (g_name (pg_name (i := 7) sc__law_step.nd rfl (Or.inl rfl))) (ss_one (s_for T.own rfl (i_seq (e_bin x_add o_add (e_ix T.u1 (e_ix T.u1 (e_name (pv 1)) e_str) (e_name (pv 7))) (e_lst (a_cons (e_name (pv 7)) a_nil)))) (g_name (pg_name (i := 8) sc__law_step.nd rfl (Or.inl rfl))) (ss_one (s_asg e_bl (g_put T.u1 (e_name (pv 6)) (e_name (pv 8)))))))) (ss_cons (s_set (k := 9) (ps_set (i := 9) sc__law_step.nd rfl (Or.inl rfl)) (e_callB (x_sorted rfl T.u64) o_sorted rfl Z.z_sorted (by kernel_rfl) (a_cons (e_name (pv 6)) a_nil))) (ss_cons (s_set (k := 10) (ps_set (i := 10) sc__law_step.nd rfl (Or.inr rfl)) e_dictT) (ss_cons (s_for T.own rfl (i_seq (e_name (pv 9))) (g_name (pg_name (i := 8) sc__law_step.nd rfl (Or.inl rfl))) (ss_one (s_for T.own rfl (i_seq (e_ix T.u1 (e_ix T.u1 (e_name (pv 1)) e_str) (e_name (pv 8)))) (g_name (pg_name (i := 7) sc__law_step.nd rfl (Or.inl rfl))) (ss_one (s_asg e_bl (g_put T.u1 (e_name (pv 10)) (e_name (pv 7)))))))) (ss_cons (s_set (k := 11) (ps_set (i := 11) sc__law_step.nd rfl (Or.inl rfl)) (e_callTy x_tuple o_tuple rfl Z.z_tuple (by kernel_rfl) (a_cons (e_lc (own := [("_law_name", 8)]) rfl sc__law_step.nd (i_seq (e_name (pv 9))) (blkOk_by (by kernel_rfl)) (fun s H C cl fp => ⟨(gx_name (pg_name (i := 8) sc__law_step.nd rfl (Or.inl rfl))), (ts_one (t_cmp (x_notIn T.blk.u64) (by with_unfolding_all rfl) o_in (e_name (pv 8)) (e_name (pv 10)))), (e_name (pv 8))⟩)) a_nil))) (ss_cons (s_set (k := 12) (ps_set (i := 12) sc__law_step.nd rfl (Or.inl rfl)) (e_tup (a_cons (e_bin x_add o_add e_int (e_callBK (cr_maxDf rfl T.u64) o_maxDf rfl Z.z_max (by kernel_rfl) (a_cons (e_lc (own := [("_law_name", 8)]) rfl sc__law_step.nd (i_seq (e_name (pv 9))) (blkOk_by (by kernel_rfl)) (fun s H C cl fp => ⟨(gx_name (pg_name (i := 8) sc__law_step.nd rfl (Or.inl rfl))), ts_nil, (e_ix T.blk.u1 (e_name (pv 8)) e_int)⟩)) a_nil) (k_cons e_int k_nil))) (a_cons (e_name (pv 3)) a_nil)))) (ss_cons (s_set (k := 13) (ps_set (i := 13) sc__law_step.nd rfl (Or.inl rfl)) (c_call Z.d__law_deed (ok__law_deed Z) T (by decide) rfl (a_cons (e_name (pv 0)) (a_cons (e_name (pv 1)) (a_cons (e_name (pv 11)) (a_cons (e_name (pv 9)) a_nil)))))) (ss_cons (s_if (t_cmp (op_eqP T.u64) (by with_unfolding_all rfl) o_eq (e_ix T.u1 (e_name (pv 13)) e_int) e_str) (ss_one (s_expr (e_meth PySem.F.plainAttrs_list PySem.F.slot_list_append PySem.F.type_list_append mt_append ty_l o_append (e_ix T.u1 (e_name (pv 1)) e_str) (a_cons (e_name (pv 12)) a_nil)))) ss_nil) (ss_cons (s_asg (e_tup (a_cons (e_name (pv 12)) (a_cons (e_ix T.u1 (e_name (pv 2)) (c_call Z.d__law_draw (ok__law_draw Z) T (by decide) rfl (a_cons (e_name (pv 0)) (a_cons (e_callB x_len o_len rfl Z.z_len (by kernel_rfl) (a_cons (e_name (pv 2)) a_nil)) a_nil)))) (a_cons (e_name (pv 11)) (a_cons (e_name (pv 13)) a_nil))))) (g_put T.u1 (e_ix T.u1 (e_name (pv 1)) e_str) (e_name (pv 12)))) (ss_cons (s_asg (e_name (pv 9)) (g_put T.u1 (e_ix T.u1 (e_name (pv 1)) e_str) (e_name (pv 12)))) (ss_one (s_asg (e_name (pv 12)) (g_put T.u1 (e_ix T.u1 (e_name (pv 1)) e_str) (e_name (pv 3))))))))))))))))))))
theorem ok__law_world (Z : Txt K mg f fd) : GnOk P w K mg base 4 (f 8) (fd 8) ["_law_feed_here", "_law_words_here", "_law_many"] (spM ⟨K, mg⟩ m__law_world) := fn_ok Z.d__law_world.F sc__law_world rfl rfl fun cdv A outer s H E T =>
  (ss_cons (s_set (k := 3) (ps_set (i := 3) sc__law_world.nd rfl (Or.inl rfl)) (e_disp (d_cons e_dictT (d_cons e_dictT (d_cons e_dictK (d_cons (e_lstR a_nil) d_nil)))))) (ss_cons (s_for T.own rfl (r_rng1 rfl Z.z_range (a_cons (e_name (pv 2)) a_nil)) (g_name (pg_name (i := 4) sc__law_world.nd rfl (Or.inl rfl))) (ss_one (s_expr (c_call Z.d__law_step (ok__law_step Z) T (by decide) rfl (a_cons (e_name (pv 0)) (a_cons (e_name (pv 3)) (a_cons (e_name (pv 1)) a_nil))))))) (ss_one (s_ret (e_name (pv 3))))))
theorem ok__law_ledger (Z : Txt K mg f fd) : GnOk P w K mg base 1 (f 9) (fd 9) ["_law_world_here", "_law_names"] (spM ⟨K, mg⟩ m__law_ledger) := fn_ok Z.d__law_ledger.F sc__law_ledger rfl rfl fun cdv A outer s H E T =>
  (ss_one (s_ret (e_callTy x_tuple o_tuple rfl Z.z_tuple (by kernel_rfl) (a_cons (e_lc (own := [("_law_name", 2)]) rfl sc__law_ledger.nd (i_seq (e_callB (x_sorted rfl T.u64) o_sorted rfl Z.z_sorted (by kernel_rfl) (a_cons (e_ix T.u1 (e_name (pv 0)) e_str) a_nil))) (blkOk_by (by kernel_rfl)) (fun s H C cl fp => ⟨(gx_name (pg_name (i := 2) sc__law_ledger.nd rfl (Or.inl rfl))), (ts_one (t_cmp (x_in T.blk.u64) (by with_unfolding_all rfl) o_in (e_name (pv 2)) (e_name (pv 1)))), (e_ix T.blk.u1 (e_ix T.blk.u1 (e_name (pv 0)) e_str) (e_name (pv 2)))⟩)) a_nil))))
theorem ok__law_road (Z : Txt K mg f fd) : GnOk P w K mg base 2 (f 10) (fd 10) ["_law_feed_here", "_law_world_here", "_law_names"] (spM ⟨K, mg⟩ m__law_road) := fn_ok Z.d__law_road.F sc__law_road rfl rfl fun cdv A outer s H E T =>
  (ss_cons (s_set (k := 3) (ps_set (i := 3) sc__law_road.nd rfl (Or.inr rfl)) (e_callTy x_list o_listR rfl Z.z_list (by kernel_rfl) (a_cons (e_name (pv 2)) a_nil))) (ss_cons (s_set (k := 4) (ps_set (i := 4) sc__law_road.nd rfl (Or.inl rfl)) (e_lstR a_nil)) (ss_cons (s_set (k := 5) (ps_set (i := 5) sc__law_road.nd rfl (Or.inl rfl)) (c_call Z.d__law_draw (ok__law_draw Z) T (by decide) rfl (a_cons (e_name (pv 0)) (a_cons e_int a_nil)))) (ss_cons (s_while 1000000 T.own (t_cmp (op_neP T.u64) (by with_unfolding_all rfl) o_ne (e_name (pv 3)) (e_lst a_nil)) (ss_cons (s_setLc (k := 7) (own := [("_law_name", 6)]) rfl sc__law_road.nd rfl rfl (by with_unfolding_all rfl) (i_seq (e_name (pv 3))) (blkOk_by (by kernel_rfl)) (fun s H C cl fp => ⟨(gx_name (pg_name (i := 6) sc__law_road.nd rfl (Or.inl rfl))), (ts_one (t_cmp (op_eqP T.blk.u64) (by with_unfolding_all rfl) o_eq (e_lc (own := [("_law_one", 8)]) rfl sc__law_road.nd (i_seq (e_ix T.blk.u1 (e_ix T.blk.u1 (e_name (pv 1)) e_str) (e_name (pv 6)))) (blkOk_by (by kernel_rfl)) (fun s H C cl fp => ⟨(gx_name (pg_name (i := 8) sc__law_road.nd rfl (Or.inl rfl))), (ts_one (t_cmp (x_in T.blk.blk.u64) (by with_unfolding_all rfl) o_in (e_name (pv 8)) (e_name (pv 3)))), (e_name (pv 8))⟩)) (e_lst a_nil))), (e_name (pv 6))⟩)) (ss_cons (s_set (k := 6) (ps_set (i := 6) sc__law_road.nd rfl (Or.inl rfl)) (e_ix T.u1 (e_name (pv 7)) (e_ix T.u1 (e_lst (a_cons (c_call Z.d__law_draw (ok__law_draw Z) T (by decide) rfl (a_cons (e_name (pv 0)) (a_cons (e_callB x_len o_len rfl Z.z_len (by kernel_rfl) (a_cons (e_name (pv 7)) a_nil)) a_nil))) (a_cons e_int (a_cons (e_bin op_sub o_sub (e_callB x_len o_len rfl Z.z_len (by kernel_rfl) (a_cons (e_name (pv 7)) a_nil)) e_int) a_nil)))) (e_name (pv 5))))) (ss_cons (s_expr (e_meth PySem.F.plainAttrs_list PySem.F.slot_list_remove PySem.F.type_list_remove (mt_remP T.u64) ty_l o_remove (e_name (pv 3)) (a_cons (e_name (pv 6)) a_nil))) (ss_one (s_expr (e_meth PySem.F.plainAttrs_list PySem.F.slot_list_append PySem.F.type_list_append mt_append ty_l o_append (e_name (pv 4)) (a_cons (e_name (pv 6)) a_nil)))))))) (ss_one (s_ret (e_callTy x_tuc o_tuc rfl Z.z_tuple (by kernel_rfl) (a_cons (e_name (pv 4)) a_nil))))))))
theorem ok__law_wide (Z : Txt K mg f fd) : GnOk P w K mg base 1 (f 11) (fd 11) ["_law_words_here"] (spM ⟨K, mg⟩ m__law_wide) := fn_ok Z.d__law_wide.F sc__law_wide rfl rfl fun cdv A outer s H E T =>
  (ss_cons (s_set (k := 1) (ps_set (i := 1) sc__law_wide.nd rfl (Or.inl rfl)) (e_disp (d_cons e_dictT (d_cons e_dictT (d_cons e_dictK (d_cons (e_lstR a_nil) d_nil)))))) (ss_cons (s_for T.own rfl (i_seq (e_name (pv 0))) (g_name (pg_name (i := 2) sc__law_wide.nd rfl (Or.inl rfl))) (ss_cons (s_asg (e_tup (a_cons (e_tup (a_cons e_int (a_cons (e_name (pv 2)) a_nil))) (a_cons (e_name (pv 2)) (a_cons (e_tup a_nil) (a_cons (e_tup (a_cons e_str (a_cons e_int (a_cons e_str a_nil)))) a_nil))))) (g_put T.u1 (e_ix T.u1 (e_name (pv 1)) e_str) (e_tup (a_cons e_int (a_cons (e_name (pv 2)) a_nil))))) (ss_one (s_asg (e_lst a_nil) (g_put T.u1 (e_ix T.u1 (e_name (pv 1)) e_str) (e_tup (a_cons e_int (a_cons (e_name (pv 2)) a_nil)))))))) (ss_one (s_ret (e_name (pv 1))))))
theorem ok__law_right (Z : Txt K mg f fd) : GnOk P w K mg base 1 (f 12) (fd 12) ["_law_world_here", "_law_one", "_law_other", "_law_told"] (spM ⟨K, mg⟩ m__law_right) := fn_ok Z.d__law_right.F sc__law_right rfl rfl fun cdv A outer s H E T =>
  (ss_cons (s_if (PW.pt (t_or (t_not (t_tru (e_isi (e_name (pv 3)) (by decide) rfl Z.z_isinstance rfl Z.z_tuple (by kernel_rfl)))) (t_or1 (t_cmp (op_neP T.u64) (by with_unfolding_all rfl) o_ne (e_lc (own := [("_law_at", 4)]) rfl sc__law_right.nd (i_seq (e_name (pv 3))) (blkOk_by (by kernel_rfl)) (fun s H C cl fp => ⟨(gx_name (pg_name (i := 4) sc__law_right.nd rfl (Or.inl rfl))), (ts_one (PW.pt (t_or (t_not (t_tru (e_isi (e_name (pv 4)) (by decide) rfl Z.z_isinstance rfl Z.z_int (by kernel_rfl)))) (t_or1 (t_tru (e_isi (e_name (pv 4)) (by decide) rfl Z.z_isinstance rfl Z.z_bool (by kernel_rfl))))))), (e_name (pv 4))⟩)) (e_lst a_nil))))) (ss_one (s_ret e_bl)) ss_nil) (ss_cons (s_set (k := 5) (ps_set (i := 5) sc__law_right.nd rfl (Or.inl rfl)) (e_callTy x_list o_listR rfl Z.z_list (by kernel_rfl) (a_cons (e_name (pv 1)) a_nil))) (ss_cons (s_for T.own rfl (i_seq (e_name (pv 3))) (g_name (pg_name (i := 4) sc__law_right.nd rfl (Or.inl rfl))) (ss_cons (s_if (PW.pt (t_or (t_not (t_chain x_le x_lt o_ord o_ord e_int (e_name (pv 4)) (e_bin op_sub o_sub (e_callB x_len o_len rfl Z.z_len (by kernel_rfl) (a_cons (e_name (pv 5)) a_nil)) e_int))) (t_or1 (t_cmp (x_in T.u64) (by with_unfolding_all rfl) o_in (e_ix T.u1 (e_name (pv 5)) (e_name (pv 4))) (e_ix T.u1 (e_ix T.u1 (e_name (pv 0)) e_str) (e_ix T.u1 (e_name (pv 5)) (e_bin x_add o_add (e_name (pv 4)) e_int))))))) (ss_one (s_ret e_bl)) ss_nil) (ss_one (s_asg (e_lst (a_cons (e_ix T.u1 (e_name (pv 5)) (e_bin x_add o_add (e_name (pv 4)) e_int)) (a_cons (e_ix T.u1 (e_name (pv 5)) (e_name (pv 4))) a_nil))) (g_putSl (e_name (pv 5)) (o_some (e_name (pv 4))) (o_some (e_bin x_add o_add (e_name (pv 4)) e_int))))))) (ss_cons (s_set (k := 6) (ps_set (i := 6) sc__law_right.nd rfl (Or.inl rfl)) e_int) (ss_cons (s_for T.own rfl (r_rng1 rfl Z.z_range (a_cons (e_callB x_len o_len rfl Z.z_len (by kernel_rfl) (a_cons (e_name (pv 1)) a_nil)) a_nil)) (g_name (pg_name (i := 7) sc__law_right.nd rfl (Or.inr rfl))) (ss_one (s_set (k := 6) (ps_set (i := 6) sc__law_right.nd rfl (Or.inl rfl)) (e_bin x_add o_add (e_name (pv 6)) (e_callB x_len o_len rfl Z.z_len (by kernel_rfl) (a_cons (e_lc (own := [("_law_name", 8)]) rfl sc__law_right.nd (i_seq (e_sl (e_name (pv 1)) o_none (o_some (e_name (pv 7))))) (blkOk_by (by kernel_rfl)) (fun s H C cl fp => ⟨(gx_name (pg_name (i := 8) sc__law_right.nd rfl (Or.inl rfl))), (ts_one (t_cmp x_gt (by with_unfolding_all rfl) o_ord (e_methT PySem.F.slot_tuple_index PySem.F.type_tuple_index (mt_idxT T.blk.u64) o_indexT (e_name (pv 2)) (a_cons (e_name (pv 8)) a_nil)) (e_methT PySem.F.slot_tuple_index PySem.F.type_tuple_index (mt_idxT T.blk.u64) o_indexT (e_name (pv 2)) (a_cons (e_ix T.blk.u1 (e_name (pv 1)) (e_name (pv 7))) a_nil)))), (e_name (pv 8))⟩)) a_nil)))))) (ss_one (s_ret (e_and (e_cmp (op_eqP T.u64) (by with_unfolding_all rfl) o_eq (e_callTy x_tuple o_tuple rfl Z.z_tuple (by kernel_rfl) (a_cons (e_name (pv 5)) a_nil)) (e_name (pv 2))) (e_one (e_cmp (op_eqP T.u64) (by with_unfolding_all rfl) o_eq (e_callB x_len o_len rfl Z.z_len (by kernel_rfl) (a_cons (e_name (pv 3)) a_nil)) (e_name (pv 6))))))))))))
theorem ok_law (Z : Txt K mg f fd) : GnOk P w K mg base 5 (f 13) (fd 13) ["_law_script"] (spM ⟨K, mg⟩ m_law) := fn_ok Z.d_law.F sc_law rfl rfl fun cdv A outer s H E T =>
  (ss_cons (s_set (k := 1) (ps_set (i := 1) sc_law.nd rfl (Or.inr rfl)) (c_call Z.d__law_feed (ok__law_feed Z) T (by decide) rfl (a_cons (e_name (pv 0)) a_nil))) (ss_cons (s_set (k := 2) (ps_set (i := 2) sc_law.nd rfl (Or.inl rfl)) (c_call Z.d__law_words (ok__law_words Z) T (by decide) rfl (a_cons (e_name (pv 1)) (a_cons (e_bin x_add o_add e_int (c_call Z.d__law_draw (ok__law_draw Z) T (by decide) rfl (a_cons (e_name (pv 1)) (a_cons e_int a_nil)))) a_nil)))) (ss_cons (s_if (t_cmp (op_eqP T.u64) (by with_unfolding_all rfl) o_eq (c_call Z.d__law_draw (ok__law_draw Z) T (by decide) rfl (a_cons (e_name (pv 1)) (a_cons e_int a_nil))) e_int) (ss_one (s_set (k := 3) (ps_set (i := 3) sc_law.nd rfl (Or.inr rfl)) (c_call Z.d__law_wide (ok__law_wide Z) T (by decide) rfl (a_cons (e_name (pv 2)) a_nil)))) (ss_one (s_set (k := 3) (ps_set (i := 3) sc_law.nd rfl (Or.inr rfl)) (c_call Z.d__law_world (ok__law_world Z) T (by decide) rfl (a_cons (e_name (pv 1)) (a_cons (e_name (pv 2)) (a_cons (c_call Z.d__law_draw (ok__law_draw Z) T (by decide) rfl (a_cons (e_name (pv 1)) (a_cons e_int a_nil))) a_nil))))))) (ss_cons (s_set (k := 4) (ps_set (i := 4) sc_law.nd rfl (Or.inr rfl)) (e_callB (x_sorted rfl T.u64) o_sorted rfl Z.z_sorted (by kernel_rfl) (a_cons (e_ix T.u1 (e_name (pv 3)) e_str) a_nil))) (ss_cons (s_set (k := 5) (ps_set (i := 5) sc_law.nd rfl (Or.inl rfl)) (c_call Z.d__law_ledger (ok__law_ledger Z) T (by decide) rfl (a_cons (e_name (pv 3)) (a_cons (e_name (pv 4)) a_nil)))) (ss_cons (s_setLc (k := 6) (own := [("_law_k", 11)]) rfl sc_law.nd rfl rfl (by with_unfolding_all rfl) (r_rng1 rfl Z.z_range (a_cons e_int a_nil)) (blkOk_by (by kernel_rfl)) (fun s H C cl fp => ⟨(gx_name (pg_name (i := 11) sc_law.nd rfl (Or.inl rfl))), ts_nil, (c_call Z.d__law_road (ok__law_road Z) T.blk (by decide) rfl (a_cons (e_name (pv 1)) (a_cons (e_name (pv 3)) (a_cons (e_name (pv 4)) a_nil))))⟩)) (ss_cons (s_set (k := 7) (ps_set (i := 7) sc_law.nd rfl (Or.inl rfl)) (e_callB (call_reprD T.u64 T.gd) o_repr rfl Z.z_repr (by kernel_rfl) (a_cons (e_tup (a_cons (e_name (pv 5)) (a_cons (e_name (pv 6)) a_nil))) a_nil))) (ss_cons (s_for T.own rfl (i_seq (e_tup (a_cons (e_tup (a_cons e_int (a_cons e_int a_nil))) (a_cons (e_tup (a_cons e_int (a_cons e_int a_nil))) (a_cons (e_tup (a_cons e_int (a_cons e_int a_nil))) (a_cons (e_tup (a_cons e_int (a_cons e_int a_nil))) (a_cons (e_tup (a_cons e_int (a_cons e_int a_nil))) (a_cons (e_tup (a_cons e_int (a_cons e_int a_nil))) (a_cons (e_tup (a_cons e_int (a_cons e_int a_nil))) (a_cons (e_tup (a_cons e_int (a_cons e_int a_nil))) a_nil)))))))))) (g_tup rfl (gs_cons (g_name (pg_name (i := 8) sc_law.nd rfl (Or.inl rfl))) (gs_cons (g_name (pg_name (i := 9) sc_law.nd rfl (Or.inl rfl))) gs_nil))) (ss_cons (s_set (k := 10) (ps_set (i := 10) sc_law.nd rfl (Or.inl rfl)) (c_call Z.d_exchange_paper (ok_exchange_paper Z) T (by decide) rfl (a_cons (e_name (pv 5)) (a_cons (e_ix T.u1 (e_name (pv 6)) (e_name (pv 8))) (a_cons (e_ix T.u1 (e_name (pv 6)) (e_name (pv 9))) a_nil))))) (ss_one (s_if (t_not (t_tru (c_call Z.d__law_right (ok__law_right Z) T (by decide) rfl (a_cons (e_name (pv 3)) (a_cons (e_ix T.u1 (e_name (pv 6)) (e_name (pv 8))) (a_cons (e_ix T.u1 (e_name (pv 6)) (e_name (pv 9))) (a_cons (e_name (pv 10)) a_nil))))))) (ss_one (s_ret e_bl)) ss_nil)))) (ss_one (s_ret (e_cmp (op_eqP T.u64) (by with_unfolding_all rfl) o_eq (e_callB (call_reprD T.u64 T.gd) o_repr rfl Z.z_repr (by kernel_rfl) (a_cons (e_tup (a_cons (e_name (pv 5)) (a_cons (e_name (pv 6)) a_nil))) a_nil)) (e_name (pv 7)))))))))))))
end
theorem all_mk {l : PySem.W.OpenLaw} {w : World} {K : PySem.W.Frag} {h : Heap} {mg : Str → Option Value} {fa : Addr} (X : K.In h) (G : h.Ns mainGlobals mg) (hfa : mg "law" = some (.ref fa))
    {f0 f1 f2 f3 f4 f5 f6 f7 f8 f9 f10 f11 f12 f13 : Addr} {od0 an0 od1 an1 od2 an2 od3 an3 od4 an4 od5 an5 od6 an6 od7 an7 od8 an8 od9 an9 od10 an10 od11 an11 od12 an12 od13 an13 : Option Addr} {sl0 sl1 sl2 sl3 sl4 sl5 sl6 sl7 sl8 sl9 sl10 sl11 sl12 sl13 : Array (Option Value)} {oc0 kV0 dc0 pm0 cd0 ct0 oc1 kV1 dc1 pm1 cd1 ct1 oc2 kV2 dc2 pm2 cd2 ct2 oc3 kV3 dc3 pm3 cd3 ct3 oc4 kV4 dc4 pm4 cd4 ct4 oc5 kV5 dc5 pm5 cd5 ct5 oc6 kV6 dc6 pm6 cd6 ct6 oc7 kV7 dc7 pm7 cd7 ct7 oc8 kV8 dc8 pm8 cd8 ct8 oc9 kV9 dc9 pm9 cd9 ct9 oc10 kV10 dc10 pm10 cd10 ct10 oc11 kV11 dc11 pm11 cd11 ct11 oc12 kV12 dc12 pm12 cd12 ct12 oc13 kV13 dc13 pm13 cd13 ct13 : Value}
    (a0 : PySem.W.nsIn K mainGlobals "exchanged" = some (some (.ref f0))) (l0 : K.lookup f0 = some ⟨oc0, od0, .func (PySem.W.fnOf "exchanged" "exchanged" (defArgs s_exchanged) (defBody s_exchanged) (defScope s_exchanged) .none kV0 dc0 pm0 an0 cd0 ct0), sl0⟩) (c0 : PySem.W.codeIn K cd0 "exchanged" = true) (k0 : PySem.W.keepIn K (.ref f0) = true)
    (a1 : PySem.W.nsIn K mainGlobals "first_unlike" = some (some (.ref f1))) (l1 : K.lookup f1 = some ⟨oc1, od1, .func (PySem.W.fnOf "first_unlike" "first_unlike" (defArgs s_first_unlike) (defBody s_first_unlike) (defScope s_first_unlike) .none kV1 dc1 pm1 an1 cd1 ct1), sl1⟩) (c1 : PySem.W.codeIn K cd1 "first_unlike" = true) (k1 : PySem.W.keepIn K (.ref f1) = true)
    (a2 : PySem.W.nsIn K mainGlobals "exchange_paper" = some (some (.ref f2))) (l2 : K.lookup f2 = some ⟨oc2, od2, .func (PySem.W.fnOf "exchange_paper" "exchange_paper" (defArgs s_exchange_paper) (defBody s_exchange_paper) (defScope s_exchange_paper) .none kV2 dc2 pm2 an2 cd2 ct2), sl2⟩) (c2 : PySem.W.codeIn K cd2 "exchange_paper" = true) (k2 : PySem.W.keepIn K (.ref f2) = true)
    (a3 : PySem.W.nsIn K mainGlobals "_law_feed" = some (some (.ref f3))) (l3 : K.lookup f3 = some ⟨oc3, od3, .func (PySem.W.fnOf "_law_feed" "_law_feed" (defArgs s__law_feed) (defBody s__law_feed) (defScope s__law_feed) .none kV3 dc3 pm3 an3 cd3 ct3), sl3⟩) (c3 : PySem.W.codeIn K cd3 "_law_feed" = true) (k3 : PySem.W.keepIn K (.ref f3) = true)
    (a4 : PySem.W.nsIn K mainGlobals "_law_draw" = some (some (.ref f4))) (l4 : K.lookup f4 = some ⟨oc4, od4, .func (PySem.W.fnOf "_law_draw" "_law_draw" (defArgs s__law_draw) (defBody s__law_draw) (defScope s__law_draw) .none kV4 dc4 pm4 an4 cd4 ct4), sl4⟩) (c4 : PySem.W.codeIn K cd4 "_law_draw" = true) (k4 : PySem.W.keepIn K (.ref f4) = true)
    (a5 : PySem.W.nsIn K mainGlobals "_law_words" = some (some (.ref f5))) (l5 : K.lookup f5 = some ⟨oc5, od5, .func (PySem.W.fnOf "_law_words" "_law_words" (defArgs s__law_words) (defBody s__law_words) (defScope s__law_words) .none kV5 dc5 pm5 an5 cd5 ct5), sl5⟩) (c5 : PySem.W.codeIn K cd5 "_law_words" = true) (k5 : PySem.W.keepIn K (.ref f5) = true)
    (a6 : PySem.W.nsIn K mainGlobals "_law_deed" = some (some (.ref f6))) (l6 : K.lookup f6 = some ⟨oc6, od6, .func (PySem.W.fnOf "_law_deed" "_law_deed" (defArgs s__law_deed) (defBody s__law_deed) (defScope s__law_deed) .none kV6 dc6 pm6 an6 cd6 ct6), sl6⟩) (c6 : PySem.W.codeIn K cd6 "_law_deed" = true) (k6 : PySem.W.keepIn K (.ref f6) = true)
    (a7 : PySem.W.nsIn K mainGlobals "_law_step" = some (some (.ref f7))) (l7 : K.lookup f7 = some ⟨oc7, od7, .func (PySem.W.fnOf "_law_step" "_law_step" (defArgs s__law_step) (defBody s__law_step) (defScope s__law_step) .none kV7 dc7 pm7 an7 cd7 ct7), sl7⟩) (c7 : PySem.W.codeIn K cd7 "_law_step" = true) (k7 : PySem.W.keepIn K (.ref f7) = true)
    (a8 : PySem.W.nsIn K mainGlobals "_law_world" = some (some (.ref f8))) (l8 : K.lookup f8 = some ⟨oc8, od8, .func (PySem.W.fnOf "_law_world" "_law_world" (defArgs s__law_world) (defBody s__law_world) (defScope s__law_world) .none kV8 dc8 pm8 an8 cd8 ct8), sl8⟩) (c8 : PySem.W.codeIn K cd8 "_law_world" = true) (k8 : PySem.W.keepIn K (.ref f8) = true)
    (a9 : PySem.W.nsIn K mainGlobals "_law_ledger" = some (some (.ref f9))) (l9 : K.lookup f9 = some ⟨oc9, od9, .func (PySem.W.fnOf "_law_ledger" "_law_ledger" (defArgs s__law_ledger) (defBody s__law_ledger) (defScope s__law_ledger) .none kV9 dc9 pm9 an9 cd9 ct9), sl9⟩) (c9 : PySem.W.codeIn K cd9 "_law_ledger" = true) (k9 : PySem.W.keepIn K (.ref f9) = true)
    (a10 : PySem.W.nsIn K mainGlobals "_law_road" = some (some (.ref f10))) (l10 : K.lookup f10 = some ⟨oc10, od10, .func (PySem.W.fnOf "_law_road" "_law_road" (defArgs s__law_road) (defBody s__law_road) (defScope s__law_road) .none kV10 dc10 pm10 an10 cd10 ct10), sl10⟩) (c10 : PySem.W.codeIn K cd10 "_law_road" = true) (k10 : PySem.W.keepIn K (.ref f10) = true)
    (a11 : PySem.W.nsIn K mainGlobals "_law_wide" = some (some (.ref f11))) (l11 : K.lookup f11 = some ⟨oc11, od11, .func (PySem.W.fnOf "_law_wide" "_law_wide" (defArgs s__law_wide) (defBody s__law_wide) (defScope s__law_wide) .none kV11 dc11 pm11 an11 cd11 ct11), sl11⟩) (c11 : PySem.W.codeIn K cd11 "_law_wide" = true) (k11 : PySem.W.keepIn K (.ref f11) = true)
    (a12 : PySem.W.nsIn K mainGlobals "_law_right" = some (some (.ref f12))) (l12 : K.lookup f12 = some ⟨oc12, od12, .func (PySem.W.fnOf "_law_right" "_law_right" (defArgs s__law_right) (defBody s__law_right) (defScope s__law_right) .none kV12 dc12 pm12 an12 cd12 ct12), sl12⟩) (c12 : PySem.W.codeIn K cd12 "_law_right" = true) (k12 : PySem.W.keepIn K (.ref f12) = true)
    (a13 : PySem.W.nsIn K mainGlobals "law" = some (some (.ref f13))) (l13 : K.lookup f13 = some ⟨oc13, od13, .func (PySem.W.fnOf "law" "law" (defArgs s_law) (defBody s_law) (defScope s_law) .none kV13 dc13 pm13 an13 cd13 ct13), sl13⟩) (c13 : PySem.W.codeIn K cd13 "law" = true) (k13 : PySem.W.keepIn K (.ref f13) = true)
    (z_bool : PySem.W.nsIn K mainGlobals "bool" = some none)
    (z_enumerate : PySem.W.nsIn K mainGlobals "enumerate" = some none)
    (z_int : PySem.W.nsIn K mainGlobals "int" = some none)
    (z_isinstance : PySem.W.nsIn K mainGlobals "isinstance" = some none)
    (z_len : PySem.W.nsIn K mainGlobals "len" = some none)
    (z_list : PySem.W.nsIn K mainGlobals "list" = some none)
    (z_max : PySem.W.nsIn K mainGlobals "max" = some none)
    (z_range : PySem.W.nsIn K mainGlobals "range" = some none)
    (z_repr : PySem.W.nsIn K mainGlobals "repr" = some none)
    (z_sorted : PySem.W.nsIn K mainGlobals "sorted" = some none)
    (z_tuple : PySem.W.nsIn K mainGlobals "tuple" = some none)
    : ∃ fd : FuncData, (∀ (s : Shared) (v : Value), BindsTo s fd ⟨[v], []⟩ [("_law_script", v)]) ∧ ∀ base : Heap, K.In base → base.Ns mainGlobals mg → GnOk l.prog w K mg base 5 fa fd ["_law_script"] (spM ⟨K, mg⟩ m_law) := by
  have e : fa = f13 := by have e := hfa.symm.trans (PySem.W.mg_of X G a13); cases e; rfl
  rw [e]
  have Z : Txt K mg (fun n => [f0, f1, f2, f3, f4, f5, f6, f7, f8, f9, f10, f11, f12, f13].getD n 0) (fun n => [PySem.W.fnOf "exchanged" "exchanged" (defArgs s_exchanged) (defBody s_exchanged) (defScope s_exchanged) .none kV0 dc0 pm0 an0 cd0 ct0, PySem.W.fnOf "first_unlike" "first_unlike" (defArgs s_first_unlike) (defBody s_first_unlike) (defScope s_first_unlike) .none kV1 dc1 pm1 an1 cd1 ct1, PySem.W.fnOf "exchange_paper" "exchange_paper" (defArgs s_exchange_paper) (defBody s_exchange_paper) (defScope s_exchange_paper) .none kV2 dc2 pm2 an2 cd2 ct2, PySem.W.fnOf "_law_feed" "_law_feed" (defArgs s__law_feed) (defBody s__law_feed) (defScope s__law_feed) .none kV3 dc3 pm3 an3 cd3 ct3, PySem.W.fnOf "_law_draw" "_law_draw" (defArgs s__law_draw) (defBody s__law_draw) (defScope s__law_draw) .none kV4 dc4 pm4 an4 cd4 ct4, PySem.W.fnOf "_law_words" "_law_words" (defArgs s__law_words) (defBody s__law_words) (defScope s__law_words) .none kV5 dc5 pm5 an5 cd5 ct5, PySem.W.fnOf "_law_deed" "_law_deed" (defArgs s__law_deed) (defBody s__law_deed) (defScope s__law_deed) .none kV6 dc6 pm6 an6 cd6 ct6, PySem.W.fnOf "_law_step" "_law_step" (defArgs s__law_step) (defBody s__law_step) (defScope s__law_step) .none kV7 dc7 pm7 an7 cd7 ct7, PySem.W.fnOf "_law_world" "_law_world" (defArgs s__law_world) (defBody s__law_world) (defScope s__law_world) .none kV8 dc8 pm8 an8 cd8 ct8, PySem.W.fnOf "_law_ledger" "_law_ledger" (defArgs s__law_ledger) (defBody s__law_ledger) (defScope s__law_ledger) .none kV9 dc9 pm9 an9 cd9 ct9, PySem.W.fnOf "_law_road" "_law_road" (defArgs s__law_road) (defBody s__law_road) (defScope s__law_road) .none kV10 dc10 pm10 an10 cd10 ct10, PySem.W.fnOf "_law_wide" "_law_wide" (defArgs s__law_wide) (defBody s__law_wide) (defScope s__law_wide) .none kV11 dc11 pm11 an11 cd11 ct11, PySem.W.fnOf "_law_right" "_law_right" (defArgs s__law_right) (defBody s__law_right) (defScope s__law_right) .none kV12 dc12 pm12 an12 cd12 ct12, PySem.W.fnOf "law" "law" (defArgs s_law) (defBody s_law) (defScope s_law) .none kV13 dc13 pm13 an13 cd13 ct13].getD n (PySem.W.fnOf "exchanged" "exchanged" (defArgs s_exchanged) (defBody s_exchanged) (defScope s_exchanged) .none kV0 dc0 pm0 an0 cd0 ct0)) := by
    constructor
    · exact ⟨fun_mk (st := s_exchanged) l0 c0 k0, (fun_mk (st := s_exchanged) l0 c0 k0).binds (ps := ["road", "k"]) fun _ _ _ _ _ _ us hl => match us, hl with | [_, _], _ => rfl, PySem.W.mg_of X G a0⟩
    · exact ⟨fun_mk (st := s_first_unlike) l1 c1 k1, (fun_mk (st := s_first_unlike) l1 c1 k1).binds (ps := ["road", "places"]) fun _ _ _ _ _ _ us hl => match us, hl with | [_, _], _ => rfl, PySem.W.mg_of X G a1⟩
    · exact ⟨fun_mk (st := s_exchange_paper) l2 c2 k2, (fun_mk (st := s_exchange_paper) l2 c2 k2).binds (ps := ["ledger", "one", "other"]) fun _ _ _ _ _ _ us hl => match us, hl with | [_, _, _], _ => rfl, PySem.W.mg_of X G a2⟩
    · exact ⟨fun_mk (st := s__law_feed) l3 c3 k3, (fun_mk (st := s__law_feed) l3 c3 k3).binds (ps := ["_law_script"]) fun _ _ _ _ _ _ us hl => match us, hl with | [_], _ => rfl, PySem.W.mg_of X G a3⟩
    · exact ⟨fun_mk (st := s__law_draw) l4 c4 k4, (fun_mk (st := s__law_draw) l4 c4 k4).binds (ps := ["_law_feed_here", "_law_many"]) fun _ _ _ _ _ _ us hl => match us, hl with | [_, _], _ => rfl, PySem.W.mg_of X G a4⟩
    · exact ⟨fun_mk (st := s__law_words) l5 c5 k5, (fun_mk (st := s__law_words) l5 c5 k5).binds (ps := ["_law_feed_here", "_law_many"]) fun _ _ _ _ _ _ us hl => match us, hl with | [_, _], _ => rfl, PySem.W.mg_of X G a5⟩
    · exact ⟨fun_mk (st := s__law_deed) l6 c6 k6, (fun_mk (st := s__law_deed) l6 c6 k6).binds (ps := ["_law_feed_here", "_law_world_here", "_law_base", "_law_floor"]) fun _ _ _ _ _ _ us hl => match us, hl with | [_, _, _, _], _ => rfl, PySem.W.mg_of X G a6⟩
    · exact ⟨fun_mk (st := s__law_step) l7 c7 k7, (fun_mk (st := s__law_step) l7 c7 k7).binds (ps := ["_law_feed_here", "_law_world_here", "_law_words_here"]) fun _ _ _ _ _ _ us hl => match us, hl with | [_, _, _], _ => rfl, PySem.W.mg_of X G a7⟩
    · exact ⟨fun_mk (st := s__law_world) l8 c8 k8, (fun_mk (st := s__law_world) l8 c8 k8).binds (ps := ["_law_feed_here", "_law_words_here", "_law_many"]) fun _ _ _ _ _ _ us hl => match us, hl with | [_, _, _], _ => rfl, PySem.W.mg_of X G a8⟩
    · exact ⟨fun_mk (st := s__law_ledger) l9 c9 k9, (fun_mk (st := s__law_ledger) l9 c9 k9).binds (ps := ["_law_world_here", "_law_names"]) fun _ _ _ _ _ _ us hl => match us, hl with | [_, _], _ => rfl, PySem.W.mg_of X G a9⟩
    · exact ⟨fun_mk (st := s__law_road) l10 c10 k10, (fun_mk (st := s__law_road) l10 c10 k10).binds (ps := ["_law_feed_here", "_law_world_here", "_law_names"]) fun _ _ _ _ _ _ us hl => match us, hl with | [_, _, _], _ => rfl, PySem.W.mg_of X G a10⟩
    · exact ⟨fun_mk (st := s__law_wide) l11 c11 k11, (fun_mk (st := s__law_wide) l11 c11 k11).binds (ps := ["_law_words_here"]) fun _ _ _ _ _ _ us hl => match us, hl with | [_], _ => rfl, PySem.W.mg_of X G a11⟩
    · exact ⟨fun_mk (st := s__law_right) l12 c12 k12, (fun_mk (st := s__law_right) l12 c12 k12).binds (ps := ["_law_world_here", "_law_one", "_law_other", "_law_told"]) fun _ _ _ _ _ _ us hl => match us, hl with | [_, _, _, _], _ => rfl, PySem.W.mg_of X G a12⟩
    · exact ⟨fun_mk (st := s_law) l13 c13 k13, (fun_mk (st := s_law) l13 c13 k13).binds (ps := ["_law_script"]) fun _ _ _ _ _ _ us hl => match us, hl with | [_], _ => rfl, PySem.W.mg_of X G a13⟩
    · exact PySem.W.mg_none_of X G z_bool
    · exact PySem.W.mg_none_of X G z_enumerate
    · exact PySem.W.mg_none_of X G z_int
    · exact PySem.W.mg_none_of X G z_isinstance
    · exact PySem.W.mg_none_of X G z_len
    · exact PySem.W.mg_none_of X G z_list
    · exact PySem.W.mg_none_of X G z_max
    · exact PySem.W.mg_none_of X G z_range
    · exact PySem.W.mg_none_of X G z_repr
    · exact PySem.W.mg_none_of X G z_sorted
    · exact PySem.W.mg_none_of X G z_tuple
  exact ⟨PySem.W.fnOf "law" "law" (defArgs s_law) (defBody s_law) (defScope s_law) .none kV13 dc13 pm13 an13 cd13 ct13, fun s v => .of_eq rfl, fun base _ _ => ok_law Z⟩
end K13

namespace K13
open PySem hiding Env plain
open L2 Mx Px StrLaws
theorem e_draw : m__law_draw = m_draw := rfl
theorem e_feed : m__law_feed = m_feed := rfl
theorem e_words : m__law_words = m_words := rfl
theorem e_world : m__law_world = m_world := rfl
theorem e_ledger : m__law_ledger = m_ledger := rfl
theorem e_road : m__law_road = m_road := rfl
theorem e_paper : m_exchange_paper = m_paper := rfl
section
variable {w : List Rc} {l : List (Str × Nm)} {h : List Nm} {tmp rest : List AV} {M : AH} {P : AV → AH → Prop} {E : Str → List (Str × AV) → AH → Prop} {ws : List Str}
/-! ### a world of changes beside one another -/
def wideR (x : Str) : Rc := ⟨(1, x), x, [], .tup [.str "put", .int 0, .str "a"], []⟩
theorem wide_rec (x : Str) : recA (wideR x) = .tup [nameA (1, x), .str x, .tup [], .tup [.str "put", .int 0, .str "a"]] := rfl
theorem wide_fl (x : Str) : flA (wideR x) = .lst [] := rfl
theorem setK_same {f : Rc → Nm} {g : Rc → AV} {w : List Rc} {n : Nm} {v : AV} (hin : n ∈ w.map f) (h : ∀ r ∈ w, f r = n → g r = v) : setK (byN f g w) (nameK n) v = byN f g w := by
  obtain ⟨r0, h0, e0⟩ := List.mem_map.mp hin
  unfold setK
  rw [if_pos]
  · unfold byN
    rw [List.map_map]
    refine List.map_congr_left fun r hr => ?_
    simp only [Function.comp]
    by_cases e : nameK (f r) = nameK n
    · rw [if_pos e, h r hr (nameK_inj e)]
    · rw [if_neg e]
  · rw [List.any_eq_true]
    exact ⟨(nameK (f r0), g r0), List.mem_map.mpr ⟨r0, h0, rfl⟩, by simp [e0]⟩
theorem wide_ok {x : Str} {w : List Rc} (hx : Tx AnyC 20 x) (hw : ∀ r ∈ w, r = wideR r.nm.2) (hn : (1, x) ∉ namesW w) : RecOk w (wideR x) where
  fl := fun y hy => by cases hy
  nd := List.nodup_nil
  so := ⟨[], by simp [wideR, sortN]⟩
  clo := fun y hy => by cases hy
  ba := rfl
  cnt := rfl
  br := fun s hs e => by
    have e1 := hw s hs
    have e2 : s.nm = (1, x) := by
      rw [e1]
      show (1, s.nm.2) = (1, x)
      rw [e]
      rfl
    exact absurd (List.mem_map.mpr ⟨s, hs, e2⟩) hn
  ok := ⟨show (1 : Int) ≤ 1 by decide, show (1 : Int) ≤ 100 by decide, hx⟩
  hand := hx
  deed := deed_ok (s := "put") (r := [.int 0, .str "a"]) ⟨by decide +kernel, by decide +kernel⟩ (fun a ha => by
    simp only [List.mem_cons, List.not_mem_nil, or_false] at ha
    rcases ha with rfl | rfl
    · exact (sh_int 1 (by decide) (by decide) (by decide)).mono (by decide) (by decide)
    · exact (Tx.sh (n := 1) ⟨by decide +kernel, by decide +kernel⟩).mono (by decide) (by decide)) (by decide)
theorem d_wide (hM : Fs [] [] M) (w6 : ws.length ≤ 6) (hws : ∀ x ∈ ws, Tx AnyC 20 x) (q : ∀ w M', WOk w → w.length ≤ 20 → Fs (wrest w [] []) [] M' → P (.ref 5) M') : wpR (m__law_wide [.lst (ws.map .str)] M) P E := by
  have hb : wpR (mDef 1 2 b__law_wide [.lst (ws.map .str)] M) (fun a M' => a = .ref 5 ∧ ∃ w, WOk w ∧ w.length ≤ 20 ∧ Fs (wrest w [] []) [] M') (fun _ _ _ => False) := by
    refine wp_def rfl ?_
    unfold b__law_wide
    refine wp_seq (fun G M => G = [some (.lst (ws.map .str)), some (.ref 5), none] ∧ Fs (wrest [] [] []) [] M) ?_ ?_
    · obtain ⟨cs, a, l, k, rfl⟩ := hM
      simp -implicitDefEqProofs only [List.map_cons, List.map_nil, List.cons_append, List.nil_append, List.replicate, wpS_set, w_disp, w_kCons, w_kNil, w_dictT, w_dictK, w_nil, w_call, v_lstR, wpR_sized, wpR_ok, List.set_cons_succ, List.set_cons_zero]
      refine ⟨by simp, by simp, ?_, ?_⟩
      · rfl
      · refine ⟨cs, a, l, k, ?_⟩
        have e := wd_merge
        show AH.mk (fd cs a l k :: ([] ++ [AV.dT []] ++ [AV.dT []] ++ [AV.dK []] ++ [AV.lst []] ++ [.dK (mergeA [(.inr ("changes" : Str), .ref 1), (.inr ("knows" : Str), .ref 2), (.inr ("last" : Str), .ref 3), (.inr ("hangs" : Str), .ref 4)])])) [] = _
        rw [e]
        rfl
    rintro _ M ⟨rfl, hM⟩
    refine wp_seq (fun G M => (∃ g2, G = [some (.lst (ws.map .str)), some (.ref 5), g2]) ∧ ∃ w, WOk w ∧ w.length ≤ 20 ∧ Fs (wrest w [] []) [] M) ?_ ?_
    · rw [wpS_for]
      try simp -implicitDefEqProofs only [w_enumT, v_enumC, v_enumT, v_seqC, v_lenC, v_listC, v_listRL, w_keys, List.map_cons, List.map_nil, List.cons_append, List.nil_append, List.replicate, List.set_cons_succ, List.set_cons_zero, wipeG, wpS_then, wpS_set, wpS_if, wpS_mret, wpS_retN, wpS_mnext, wpS_mbrk, wpS_mcnt, wpS_exp, wpS_asg, wpS_for, w_c, w_bin, w_un, w_ifE, w_andV, w_orV, w_notV, w_call, w_chain, w_meth, w_meth0, w_sl, w_noPart, w_part, w_nil, w_cons, w_bl, w_tru, w_and, w_or, w_not, w_lcV, w_lcR, w_lc, w_seq, w_rng1, w_rng2, w_var0, w_var1, w_var2, w_var3, w_var4, w_var5, w_var6, w_var7, w_var8, w_var9, w_var10, w_var11, w_var12, w_var13, w_var14, w_var15, w_var16, w_var17, w_var18, w_var19, w_var20, w_dictT, w_dictK, w_gTp, wpS_par, wpS_par3, w_zip, w_enum, w_rev, v_zipL, v_zipT, v_enumL, v_revL, v_revT, w_gsCons, w_gsNil, w_callK, wpR_ok, wpR_sized, v_nm, v_addI, v_addS, v_addT, v_addL, v_sub, v_neg, w_mul, w_div, w_mod, w_pow, v_ordI, v_eqI, v_neI, v_eqS, v_neS, v_lenS, v_lenL, v_lenF, v_lenT, v_truB, v_seqS, v_seqT, v_seqL, v_seqF, v_listT, v_listL, v_tupleL, v_tupleT, v_tupD, v_lstD, v_lstR, v_slT, v_slL, v_slF, w_slS, defD_rt, defD_nx, defD_ex, defD_bk, defD_ct, AV.bl.injEq, AV.int.injEq, Option.some.injEq, exists_eq_left', tyS, if_true, if_false, Bool.false_eq_true, true_and, and_true]
      refine wp_loop (fun k G M => (∃ g2, G = [some (.lst (ws.map .str)), some (.ref 5), g2]) ∧ ∃ w, WOk w ∧ (∀ r ∈ w, r = wideR r.nm.2) ∧ w.length ≤ k ∧ Fs (wrest w [] []) [] M) _ 0 _ _ ⟨⟨_, rfl⟩, [], .nil, by simp, by simp, hM⟩ ?_ ?_
      · rintro j a G M hj ⟨⟨g2, rfl⟩, w, hw, hwr, hl, hF⟩
        obtain ⟨hj2, hj3⟩ := List.getElem?_eq_some_iff.mp hj
        rw [List.length_map] at hj2
        have ha : a ∈ ws.map AV.str := hj3 ▸ List.getElem_mem _
        obtain ⟨x, hx, rfl⟩ := List.mem_map.mp ha
        have hF' : Fs (wrest w [] [] ++ []) [] M := by rwa [List.append_nil]
        try simp -implicitDefEqProofs only [w_enumT, v_enumC, v_enumT, v_seqC, v_lenC, v_listC, v_listRL, w_keys, List.map_cons, List.map_nil, List.cons_append, List.nil_append, List.replicate, List.set_cons_succ, List.set_cons_zero, wipeG, wpS_then, wpS_set, wpS_if, wpS_mret, wpS_retN, wpS_mnext, wpS_mbrk, wpS_mcnt, wpS_exp, wpS_asg, wpS_for, w_c, w_bin, w_un, w_ifE, w_andV, w_orV, w_notV, w_call, w_chain, w_meth, w_meth0, w_sl, w_noPart, w_part, w_nil, w_cons, w_bl, w_tru, w_and, w_or, w_not, w_lcV, w_lcR, w_lc, w_seq, w_rng1, w_rng2, w_var0, w_var1, w_var2, w_var3, w_var4, w_var5, w_var6, w_var7, w_var8, w_var9, w_var10, w_var11, w_var12, w_var13, w_var14, w_var15, w_var16, w_var17, w_var18, w_var19, w_var20, w_dictT, w_dictK, w_gTp, wpS_par, wpS_par3, w_zip, w_enum, w_rev, v_zipL, v_zipT, v_enumL, v_revL, v_revT, w_gsCons, w_gsNil, w_callK, wpR_ok, wpR_sized, v_nm, v_addI, v_addS, v_addT, v_addL, v_sub, v_neg, w_mul, w_div, w_mod, w_pow, v_ordI, v_eqI, v_neI, v_eqS, v_neS, v_lenS, v_lenL, v_lenF, v_lenT, v_truB, v_seqS, v_seqT, v_seqL, v_seqF, v_listT, v_listL, v_tupleL, v_tupleT, v_tupD, v_lstD, v_lstR, v_slT, v_slL, v_slF, w_slS, defD_rt, defD_nx, defD_ex, defD_bk, defD_ct, AV.bl.injEq, AV.int.injEq, Option.some.injEq, exists_eq_left', tyS, if_true, if_false, Bool.false_eq_true, true_and, and_true]
        refine ⟨by simp, by simp, by simp, by simp, ?_⟩
        have hn1 : ∀ r ∈ w, r.nm = (1, x) → recA r = recA (wideR x) := fun r hr e => by
          rw [hwr r hr, e]
        have hn2 : ∀ r ∈ w, r.nm = (1, x) → flA r = flA (wideR x) := fun r hr e => by
          rw [hwr r hr, e]
        have key1 : mTup (mCons (mC (.int 1)) (mCons (mVar 2) (mNil))) [some (.lst (ws.map .str)), some (.ref 5), some (.str x)] M = .ok (nameA (1, x)) M := rfl
        refine f_putT (i := 0) (kvs := chK w) hF rfl (by simp [byN]; omega) (wpR_eq (by try simp -implicitDefEqProofs only [w_enumT, v_enumC, v_enumT, v_seqC, v_lenC, v_listC, v_listRL, w_keys, List.map_cons, List.map_nil, List.cons_append, List.nil_append, List.replicate, List.set_cons_succ, List.set_cons_zero, wipeG, wpS_then, wpS_set, wpS_if, wpS_mret, wpS_retN, wpS_mnext, wpS_mbrk, wpS_mcnt, wpS_exp, wpS_asg, wpS_for, w_c, w_bin, w_un, w_ifE, w_andV, w_orV, w_notV, w_call, w_chain, w_meth, w_meth0, w_sl, w_noPart, w_part, w_nil, w_cons, w_bl, w_tru, w_and, w_or, w_not, w_lcV, w_lcR, w_lc, w_seq, w_rng1, w_rng2, w_var0, w_var1, w_var2, w_var3, w_var4, w_var5, w_var6, w_var7, w_var8, w_var9, w_var10, w_var11, w_var12, w_var13, w_var14, w_var15, w_var16, w_var17, w_var18, w_var19, w_var20, w_dictT, w_dictK, w_gTp, wpS_par, wpS_par3, w_zip, w_enum, w_rev, v_zipL, v_zipT, v_enumL, v_revL, v_revT, w_gsCons, w_gsNil, w_callK, wpR_ok, wpR_sized, v_nm, v_addI, v_addS, v_addT, v_addL, v_sub, v_neg, w_mul, w_div, w_mod, w_pow, v_ordI, v_eqI, v_neI, v_eqS, v_neS, v_lenS, v_lenL, v_lenF, v_lenT, v_truB, v_seqS, v_seqT, v_seqL, v_seqF, v_listT, v_listL, v_tupleL, v_tupleT, v_tupD, v_lstD, v_lstR, v_slT, v_slL, v_slF, w_slS, defD_rt, defD_nx, defD_ex, defD_bk, defD_ct, AV.bl.injEq, AV.int.injEq, Option.some.injEq, exists_eq_left', tyS, if_true, if_false, Bool.false_eq_true, true_and, and_true, w_ch hF'])) key1 (keyT_name (1, x)) fun M1 h1 => ?_
        refine ⟨by simp, ?_⟩
        refine f_putT (i := 1) (kvs := knK w) h1 rfl (by simp [byN]; omega) (wpR_eq (by
          have e := f_ixK (i := 4) (b := .str "knows") h1 rfl rfl wd_kn
          try simp -implicitDefEqProofs only [w_enumT, v_enumC, v_enumT, v_seqC, v_lenC, v_listC, v_listRL, w_keys, List.map_cons, List.map_nil, List.cons_append, List.nil_append, List.replicate, List.set_cons_succ, List.set_cons_zero, wipeG, wpS_then, wpS_set, wpS_if, wpS_mret, wpS_retN, wpS_mnext, wpS_mbrk, wpS_mcnt, wpS_exp, wpS_asg, wpS_for, w_c, w_bin, w_un, w_ifE, w_andV, w_orV, w_notV, w_call, w_chain, w_meth, w_meth0, w_sl, w_noPart, w_part, w_nil, w_cons, w_bl, w_tru, w_and, w_or, w_not, w_lcV, w_lcR, w_lc, w_seq, w_rng1, w_rng2, w_var0, w_var1, w_var2, w_var3, w_var4, w_var5, w_var6, w_var7, w_var8, w_var9, w_var10, w_var11, w_var12, w_var13, w_var14, w_var15, w_var16, w_var17, w_var18, w_var19, w_var20, w_dictT, w_dictK, w_gTp, wpS_par, wpS_par3, w_zip, w_enum, w_rev, v_zipL, v_zipT, v_enumL, v_revL, v_revT, w_gsCons, w_gsNil, w_callK, wpR_ok, wpR_sized, v_nm, v_addI, v_addS, v_addT, v_addL, v_sub, v_neg, w_mul, w_div, w_mod, w_pow, v_ordI, v_eqI, v_neI, v_eqS, v_neS, v_lenS, v_lenL, v_lenF, v_lenT, v_truB, v_seqS, v_seqT, v_seqL, v_seqF, v_listT, v_listL, v_tupleL, v_tupleT, v_tupD, v_lstD, v_lstR, v_slT, v_slL, v_slF, w_slS, defD_rt, defD_nx, defD_ex, defD_bk, defD_ct, AV.bl.injEq, AV.int.injEq, Option.some.injEq, exists_eq_left', tyS, if_true, if_false, Bool.false_eq_true, true_and, and_true, e])) (show mTup (mCons (mC (.int 1)) (mCons (mVar 2) (mNil))) [some (.lst (ws.map .str)), some (.ref 5), some (.str x)] M1 = .ok (nameA (1, x)) M1 from rfl) (keyT_name (1, x)) fun M2 h2 => ?_
        refine ⟨⟨_, rfl⟩, ?_⟩
        by_cases hin : (1, x) ∈ namesW w
        · refine ⟨w, hw, hwr, by omega, ?_⟩
          have e1 : setK (chK w) (nameK (1, x)) (recA (wideR x)) = chK w := setK_same hin hn1
          have e2 : setK (knK w) (nameK (1, x)) (flA (wideR x)) = knK w := setK_same hin hn2
          have h3 : Fs (((wrest w [] []).set 0 (.dT (setK (chK w) (nameK (1, x)) (recA (wideR x))))).set 1 (.dT (setK (knK w) (nameK (1, x)) (flA (wideR x))))) [] M2 := h2
          rw [e1, e2] at h3
          exact h3
        · refine ⟨w ++ [wideR x], .snoc hw (wide_ok (hws x hx) hwr hin), fun r hr => ?_, by simp; omega, ?_⟩
          · rcases List.mem_append.mp hr with z | z
            · exact hwr r z
            · rw [List.mem_singleton.mp z]
              rfl
          · have e1 : setK (chK w) (nameK (1, x)) (recA (wideR x)) = chK (w ++ [wideR x]) := setK_new (f := Rc.nm) (g := recA) (r := wideR x) hin
            have e2 : setK (knK w) (nameK (1, x)) (flA (wideR x)) = knK (w ++ [wideR x]) := setK_new (f := Rc.nm) (g := flA) (r := wideR x) hin
            have h3 : Fs (((wrest w [] []).set 0 (.dT (setK (chK w) (nameK (1, x)) (recA (wideR x))))).set 1 (.dT (setK (knK w) (nameK (1, x)) (flA (wideR x))))) [] M2 := h2
            rw [e1, e2] at h3
            exact h3
      · rintro G M ⟨hG, w, hw, _, hl, hF⟩
        rw [Nat.zero_add, List.length_map] at hl
        exact ⟨hG, w, hw, by omega, hF⟩
    rintro _ M ⟨⟨g2, rfl⟩, hW⟩
    try simp -implicitDefEqProofs only [w_enumT, v_enumC, v_enumT, v_seqC, v_lenC, v_listC, v_listRL, w_keys, List.map_cons, List.map_nil, List.cons_append, List.nil_append, List.replicate, List.set_cons_succ, List.set_cons_zero, wipeG, wpS_then, wpS_set, wpS_if, wpS_mret, wpS_retN, wpS_mnext, wpS_mbrk, wpS_mcnt, wpS_exp, wpS_asg, wpS_for, w_c, w_bin, w_un, w_ifE, w_andV, w_orV, w_notV, w_call, w_chain, w_meth, w_meth0, w_sl, w_noPart, w_part, w_nil, w_cons, w_bl, w_tru, w_and, w_or, w_not, w_lcV, w_lcR, w_lc, w_seq, w_rng1, w_rng2, w_var0, w_var1, w_var2, w_var3, w_var4, w_var5, w_var6, w_var7, w_var8, w_var9, w_var10, w_var11, w_var12, w_var13, w_var14, w_var15, w_var16, w_var17, w_var18, w_var19, w_var20, w_dictT, w_dictK, w_gTp, wpS_par, wpS_par3, w_zip, w_enum, w_rev, v_zipL, v_zipT, v_enumL, v_revL, v_revT, w_gsCons, w_gsNil, w_callK, wpR_ok, wpR_sized, v_nm, v_addI, v_addS, v_addT, v_addL, v_sub, v_neg, w_mul, w_div, w_mod, w_pow, v_ordI, v_eqI, v_neI, v_eqS, v_neS, v_lenS, v_lenL, v_lenF, v_lenT, v_truB, v_seqS, v_seqT, v_seqL, v_seqF, v_listT, v_listL, v_tupleL, v_tupleT, v_tupD, v_lstD, v_lstR, v_slT, v_slL, v_slF, w_slS, defD_rt, defD_nx, defD_ex, defD_bk, defD_ct, AV.bl.injEq, AV.int.injEq, Option.some.injEq, exists_eq_left', tyS, if_true, if_false, Bool.false_eq_true, true_and, and_true]
    exact hW
  unfold m__law_wide gc
  cases e : mDef 1 2 b__law_wide [.lst (ws.map .str)] M with
  | ok a M' =>
    rw [e] at hb
    obtain ⟨rfl, w, hw, hl, hF⟩ := hb
    have hl1 : M.objs.length = 1 := hM.len
    have hc : cl 1 (fin 1 M' (.ref 5)) = false := by
      obtain ⟨cs, a, l', k, rfl⟩ := hF
      rfl
    rw [hl1]
    simp only [hc, Bool.false_eq_true, and_false, if_false, wpR_ok]
    exact q w M' hw hl hF
  | exc c fs M => rw [e] at hb; exact hb.elim
  | stuck => rw [e] at hb; exact hb.elim
/-! ### what the law asks of a paper -/
theorem f_putSl {i k m : Nat} {xs ys : List AV} {mo : EM} {ml mh : OM} {G : Env} {Q : Env → AH → Prop} {E : Str → List (Str × AV) → AH → Prop} (h : Fs rest [] M) (hx : rest[i]? = some (.lst xs)) (ho : mo G M = .ok (.ref (i + 1)) M) (hl : ml G M = .ok (some (k : Int)) M) (hh : mh G M = .ok (some (m : Int)) M)
    (hkm : k ≤ m) (hm : m ≤ xs.length) (hz : xs.length + ys.length ≤ 16777216) (q : ∀ M', Fs (rest.set i (.lst (xs.take k ++ ys ++ xs.drop m))) [] M' → Q G M') : wpR (gPutSl mo ml mh (.lst ys) G M) Q E := by
  have e : M.objs[i + 1]? = some (.lst xs) := by rw [h.get, hx]
  have e2 : aSlV (.ref (i + 1)) (some (k : Int)) (some (m : Int)) (.lst ys) M = some (setL M (i + 1) (xs.take k ++ ys ++ xs.drop m)) := by
    simp only [aSlV, e]
    rw [if_pos ⟨by omega, by omega, by omega, hz⟩]
    simp
  simp only [gPutSl, ho, hl, hh, e2, wpR_ok]
  exact q _ (h.set i _)
theorem eqv_names : ∀ R : List Nm, PyData.eqvAll (toDs (R.map nameA)) (toDs (R.map nameA)) = true
  | [] => by simp [toDs, PyData.eqvAll]
  | a :: r => by
    have h : PyData.eqv (toD (nameA a)) (toD (nameA a)) = true := by
      have := aeq_name a a
      rw [decide_eq_true rfl] at this
      exact this
    simp only [List.map_cons, toDs, PyData.eqvAll, h, eqv_names r, Bool.and_self]
theorem v_eqTC (R : List Nm) : gEq (.tup (R.map nameA)) (.tuc (R.map nameA)) M = .ok (.bl true) M := by
  have h1 : plain 60 (.tup (R.map nameA)) = true := by
    simp only [plain, List.all_map, List.all_eq_true]
    exact fun n _ => rfl
  have h2 : plain 60 (.tuc (R.map nameA)) = true := by
    simp only [plain, List.all_map, List.all_eq_true]
    exact fun n _ => rfl
  simp only [gEq, top, h1, h2, Bool.and_self, if_true, aeq, toD, PyData.eqv, eqv_names]
theorem v_isTup (xs : List AV) : gIsi "tuple" (.tup xs) M = .ok (.bl true) M := by simp [gIsi, tyN, isiB]
theorem v_isInt (i : Int) : gIsi "int" (.int i) M = .ok (.bl true) M := by simp [gIsi, tyN, isiB]
theorem v_isBool (i : Int) : gIsi "bool" (.int i) M = .ok (.bl false) M := by simp [gIsi, tyN, isiB]
noncomputable def rightT : SM := mThen (mSet 6 (mC (.int 0))) (mThen (mFor (mRng1 (mCons (mCall gLen (mCons (mVar 1) (mNil))) (mNil))) (gNm 7) (mSet 6 (mBin gAdd (mVar 6) (mCall gLen (mCons (mLcV (mLc [8] (mSeq (mSl gSl (mVar 1) (mNoPart) (mPart (mVar 7)))) (gNm 8) (mBl (mBin gGt (mMeth tyT gIndexT (mVar 2) (mCons (mVar 8) (mNil))) (mMeth tyT gIndexT (mVar 2) (mCons (mBin gIx (mVar 1) (mVar 7)) (mNil))))) (mVar 8))) (mNil)))))) (mRet (mAndV (mBin gEq (mCall gTuple (mCons (mVar 5) (mNil))) (mVar 2)) (mBin gEq (mCall gLen (mCons (mVar 3) (mNil))) (mVar 6)))))
theorem d_rightT {A B : List Nm} {ks : List Nat} {g4 : Option AV} {G0 : Env} (hG0 : G0 = [some (.ref 5), some (.tuc (A.map nameA)), some (.tuc (B.map nameA)), some (.tup (ksA ks)), g4, some (.ref ((wrest w l h ++ tmp).length + 1)), none, none, none]) {D : SD} (hM : Fs (wrest w l h ++ tmp ++ [.lst (B.map nameA)]) [] M) (hAl : A.length ≤ 20) (hkl : ks.length = inv (plc B) A) (hA : Road w A) (hB : Road w B)
    (q : ∀ M', Fs (wrest w l h ++ tmp ++ [.lst (B.map nameA)]) [] M' → D.rt (.bl true) M') : wpS (rightT G0 M) D := by
  unfold rightT
  have g1 : ∀ xs : List AV, (wrest w l h ++ tmp ++ [AV.lst xs])[(wrest w l h ++ tmp).length]? = some (.lst xs) := fun xs => by simp
  refine wp_seq (fun G M => G = [some (.ref 5), some (.tuc (A.map nameA)), some (.tuc (B.map nameA)), some (.tup (ksA ks)), g4, some (.ref ((wrest w l h ++ tmp).length + 1)), some (.int 0), none, none] ∧ Fs (wrest w l h ++ tmp ++ [.lst (B.map nameA)]) [] M) ?_ ?_
  · rw [hG0]
    try simp -implicitDefEqProofs only [w_enumT, v_enumC, v_enumT, v_seqC, v_lenC, v_listC, v_listRL, w_keys, List.map_cons, List.map_nil, List.cons_append, List.nil_append, List.replicate, List.set_cons_succ, List.set_cons_zero, wipeG, wpS_then, wpS_set, wpS_if, wpS_mret, wpS_retN, wpS_mnext, wpS_mbrk, wpS_mcnt, wpS_exp, wpS_asg, wpS_for, w_c, w_bin, w_un, w_ifE, w_andV, w_orV, w_notV, w_call, w_chain, w_meth, w_meth0, w_sl, w_noPart, w_part, w_nil, w_cons, w_bl, w_tru, w_and, w_or, w_not, w_lcV, w_lcR, w_lc, w_seq, w_rng1, w_rng2, w_var0, w_var1, w_var2, w_var3, w_var4, w_var5, w_var6, w_var7, w_var8, w_var9, w_var10, w_var11, w_var12, w_var13, w_var14, w_var15, w_var16, w_var17, w_var18, w_var19, w_var20, w_dictT, w_dictK, w_gTp, wpS_par, wpS_par3, w_zip, w_enum, w_rev, v_zipL, v_zipT, v_enumL, v_revL, v_revT, w_gsCons, w_gsNil, w_callK, wpR_ok, wpR_sized, v_nm, v_addI, v_addS, v_addT, v_addL, v_sub, v_neg, w_mul, w_div, w_mod, w_pow, v_ordI, v_eqI, v_neI, v_eqS, v_neS, v_lenS, v_lenL, v_lenF, v_lenT, v_truB, v_seqS, v_seqT, v_seqL, v_seqF, v_listT, v_listL, v_tupleL, v_tupleT, v_tupD, v_lstD, v_lstR, v_slT, v_slL, v_slF, w_slS, defD_rt, defD_nx, defD_ex, defD_bk, defD_ct, AV.bl.injEq, AV.int.injEq, Option.some.injEq, exists_eq_left', tyS, if_true, if_false, Bool.false_eq_true, true_and, and_true]
    first | exact ⟨rfl, hM⟩ | exact hM
  clear hG0
  rintro G0 M ⟨hG0, hM⟩
  refine wp_seq (fun G M => (∃ g7, G = [some (.ref 5), some (.tuc (A.map nameA)), some (.tuc (B.map nameA)), some (.tup (ksA ks)), g4, some (.ref ((wrest w l h ++ tmp).length + 1)), some (.int (inv (plc B) A : Nat)), g7, none]) ∧ Fs (wrest w l h ++ tmp ++ [.lst (B.map nameA)]) [] M) ?_ ?_
  · rw [wpS_for, hG0]
    try simp -implicitDefEqProofs only [w_enumT, v_enumC, v_enumT, v_seqC, v_lenC, v_listC, v_listRL, w_keys, List.map_cons, List.map_nil, List.cons_append, List.nil_append, List.replicate, List.set_cons_succ, List.set_cons_zero, wipeG, wpS_then, wpS_set, wpS_if, wpS_mret, wpS_retN, wpS_mnext, wpS_mbrk, wpS_mcnt, wpS_exp, wpS_asg, wpS_for, w_c, w_bin, w_un, w_ifE, w_andV, w_orV, w_notV, w_call, w_chain, w_meth, w_meth0, w_sl, w_noPart, w_part, w_nil, w_cons, w_bl, w_tru, w_and, w_or, w_not, w_lcV, w_lcR, w_lc, w_seq, w_rng1, w_rng2, w_var0, w_var1, w_var2, w_var3, w_var4, w_var5, w_var6, w_var7, w_var8, w_var9, w_var10, w_var11, w_var12, w_var13, w_var14, w_var15, w_var16, w_var17, w_var18, w_var19, w_var20, w_dictT, w_dictK, w_gTp, wpS_par, wpS_par3, w_zip, w_enum, w_rev, v_zipL, v_zipT, v_enumL, v_revL, v_revT, w_gsCons, w_gsNil, w_callK, wpR_ok, wpR_sized, v_nm, v_addI, v_addS, v_addT, v_addL, v_sub, v_neg, w_mul, w_div, w_mod, w_pow, v_ordI, v_eqI, v_neI, v_eqS, v_neS, v_lenS, v_lenL, v_lenF, v_lenT, v_truB, v_seqS, v_seqT, v_seqL, v_seqF, v_listT, v_listL, v_tupleL, v_tupleT, v_tupD, v_lstD, v_lstR, v_slT, v_slL, v_slF, w_slS, defD_rt, defD_nx, defD_ex, defD_bk, defD_ct, AV.bl.injEq, AV.int.injEq, Option.some.injEq, exists_eq_left', tyS, if_true, if_false, Bool.false_eq_true, true_and, and_true]
    rw [w_gRng1 (by unfold rngOk; simp; omega)]
    refine wp_loop (fun j G M => (∃ g7, G = [some (.ref 5), some (.tuc (A.map nameA)), some (.tuc (B.map nameA)), some (.tup (ksA ks)), g4, some (.ref ((wrest w l h ++ tmp).length + 1)), some (.int (inv (plc B) (A.take j) : Nat)), g7, none]) ∧ Fs (wrest w l h ++ tmp ++ [.lst (B.map nameA)]) [] M) _ 0 _ _ ⟨⟨_, rfl⟩, hM⟩ ?_ ?_
    · rintro j x G M hj ⟨⟨g7, rfl⟩, hF⟩
      rw [Nat.zero_add] at *
      have ex := rng_get hj
      rw [Int.zero_add] at ex
      subst ex
      have hj2 : j < A.length := by
        have := (List.getElem?_eq_some_iff.mp hj).1
        rw [rng_len, List.length_map] at this
        omega
      have i1 : atI (A.map nameA) (j : Int) = some (nameA A[j]) := by
        rw [at_nat (by rw [List.length_map]; omega)]
        simp
      have hmemA : ∀ n ∈ A, n ∈ B := fun n hn => (hB.2.1 n).mpr ((hA.2.1 n).mp hn)
      have et : A.take (j + 1) = A.take j ++ [A[j]] := by
        rw [List.take_add_one, List.getElem?_eq_getElem hj2]
        rfl
      have esl : gSl (.tuc (A.map nameA)) none (some (j : Int)) M = .ok (.tup ((A.take j).map nameA)) M := by
        rw [r_sl1 (.inr rfl) (by rw [List.length_map]; omega), List.map_take]
      have htl : (A.take j).length ≤ 20 := by rw [List.length_take]; omega
      have hlc := lcl_map (l0 := (A.take j).map nameA) (t := gNm 8) (c := mBl (mBin gGt (mMeth tyT gIndexT (mVar 2) (mCons (mVar 8) (mNil))) (mMeth tyT gIndexT (mVar 2) (mCons (mBin gIx (mVar 1) (mVar 7)) (mNil))))) (el := mVar 8) (G := [some (.ref 5), some (.tuc (A.map nameA)), some (.tuc (B.map nameA)), some (.tup (ksA ks)), g4, some (.ref ((wrest w l h ++ tmp).length + 1)), some (.int (inv (plc B) (A.take j) : Nat)), some (.int (j : Nat)), none]) (M := M) nameA (fun n => decide (plc B A[j] < plc B n)) nameA (A.take j) [] (by simp; omega) fun n hn => ⟨_, rfl, wpR_eq (by
        have hnA : n ∈ A := List.mem_of_mem_take hn
        try simp -implicitDefEqProofs only [w_enumT, v_enumC, v_enumT, v_seqC, v_lenC, v_listC, v_listRL, w_keys, List.map_cons, List.map_nil, List.cons_append, List.nil_append, List.replicate, List.set_cons_succ, List.set_cons_zero, wipeG, wpS_then, wpS_set, wpS_if, wpS_mret, wpS_retN, wpS_mnext, wpS_mbrk, wpS_mcnt, wpS_exp, wpS_asg, wpS_for, w_c, w_bin, w_un, w_ifE, w_andV, w_orV, w_notV, w_call, w_chain, w_meth, w_meth0, w_sl, w_noPart, w_part, w_nil, w_cons, w_bl, w_tru, w_and, w_or, w_not, w_lcV, w_lcR, w_lc, w_seq, w_rng1, w_rng2, w_var0, w_var1, w_var2, w_var3, w_var4, w_var5, w_var6, w_var7, w_var8, w_var9, w_var10, w_var11, w_var12, w_var13, w_var14, w_var15, w_var16, w_var17, w_var18, w_var19, w_var20, w_dictT, w_dictK, w_gTp, wpS_par, wpS_par3, w_zip, w_enum, w_rev, v_zipL, v_zipT, v_enumL, v_revL, v_revT, w_gsCons, w_gsNil, w_callK, wpR_ok, wpR_sized, v_nm, v_addI, v_addS, v_addT, v_addL, v_sub, v_neg, w_mul, w_div, w_mod, w_pow, v_ordI, v_eqI, v_neI, v_eqS, v_neS, v_lenS, v_lenL, v_lenF, v_lenT, v_truB, v_seqS, v_seqT, v_seqL, v_seqF, v_listT, v_listL, v_tupleL, v_tupleT, v_tupD, v_lstD, v_lstR, v_slT, v_slL, v_slF, w_slS, defD_rt, defD_nx, defD_ex, defD_bk, defD_ct, AV.bl.injEq, AV.int.injEq, Option.some.injEq, exists_eq_left', tyS, if_true, if_false, Bool.false_eq_true, true_and, and_true, v_index (hmemA n hnA), w_ixC, i1]
        refine ⟨rfl, rfl, ?_⟩
        try simp -implicitDefEqProofs only [w_enumT, v_enumC, v_enumT, v_seqC, v_lenC, v_listC, v_listRL, w_keys, List.map_cons, List.map_nil, List.cons_append, List.nil_append, List.replicate, List.set_cons_succ, List.set_cons_zero, wipeG, wpS_then, wpS_set, wpS_if, wpS_mret, wpS_retN, wpS_mnext, wpS_mbrk, wpS_mcnt, wpS_exp, wpS_asg, wpS_for, w_c, w_bin, w_un, w_ifE, w_andV, w_orV, w_notV, w_call, w_chain, w_meth, w_meth0, w_sl, w_noPart, w_part, w_nil, w_cons, w_bl, w_tru, w_and, w_or, w_not, w_lcV, w_lcR, w_lc, w_seq, w_rng1, w_rng2, w_var0, w_var1, w_var2, w_var3, w_var4, w_var5, w_var6, w_var7, w_var8, w_var9, w_var10, w_var11, w_var12, w_var13, w_var14, w_var15, w_var16, w_var17, w_var18, w_var19, w_var20, w_dictT, w_dictK, w_gTp, wpS_par, wpS_par3, w_zip, w_enum, w_rev, v_zipL, v_zipT, v_enumL, v_revL, v_revT, w_gsCons, w_gsNil, w_callK, wpR_ok, wpR_sized, v_nm, v_addI, v_addS, v_addT, v_addL, v_sub, v_neg, w_mul, w_div, w_mod, w_pow, v_ordI, v_eqI, v_neI, v_eqS, v_neS, v_lenS, v_lenL, v_lenF, v_lenT, v_truB, v_seqS, v_seqT, v_seqL, v_seqF, v_listT, v_listL, v_tupleL, v_tupleT, v_tupD, v_lstD, v_lstR, v_slT, v_slL, v_slF, w_slS, defD_rt, defD_nx, defD_ex, defD_bk, defD_ct, AV.bl.injEq, AV.int.injEq, Option.some.injEq, exists_eq_left', tyS, if_true, if_false, Bool.false_eq_true, true_and, and_true, v_index (hmemA A[j] (List.getElem_mem _))]
        simp), fun _ => rfl⟩
      rw [List.nil_append] at hlc
      try simp -implicitDefEqProofs only [w_enumT, v_enumC, v_enumT, v_seqC, v_lenC, v_listC, v_listRL, w_keys, List.map_cons, List.map_nil, List.cons_append, List.nil_append, List.replicate, List.set_cons_succ, List.set_cons_zero, wipeG, wpS_then, wpS_set, wpS_if, wpS_mret, wpS_retN, wpS_mnext, wpS_mbrk, wpS_mcnt, wpS_exp, wpS_asg, wpS_for, w_c, w_bin, w_un, w_ifE, w_andV, w_orV, w_notV, w_call, w_chain, w_meth, w_meth0, w_sl, w_noPart, w_part, w_nil, w_cons, w_bl, w_tru, w_and, w_or, w_not, w_lcV, w_lcR, w_lc, w_seq, w_rng1, w_rng2, w_var0, w_var1, w_var2, w_var3, w_var4, w_var5, w_var6, w_var7, w_var8, w_var9, w_var10, w_var11, w_var12, w_var13, w_var14, w_var15, w_var16, w_var17, w_var18, w_var19, w_var20, w_dictT, w_dictK, w_gTp, wpS_par, wpS_par3, w_zip, w_enum, w_rev, v_zipL, v_zipT, v_enumL, v_revL, v_revT, w_gsCons, w_gsNil, w_callK, wpR_ok, wpR_sized, v_nm, v_addI, v_addS, v_addT, v_addL, v_sub, v_neg, w_mul, w_div, w_mod, w_pow, v_ordI, v_eqI, v_neI, v_eqS, v_neS, v_lenS, v_lenL, v_lenF, v_lenT, v_truB, v_seqS, v_seqT, v_seqL, v_seqF, v_listT, v_listL, v_tupleL, v_tupleT, v_tupD, v_lstD, v_lstR, v_slT, v_slL, v_slF, w_slS, defD_rt, defD_nx, defD_ex, defD_bk, defD_ct, AV.bl.injEq, AV.int.injEq, Option.some.injEq, exists_eq_left', tyS, if_true, if_false, Bool.false_eq_true, true_and, and_true, esl]
      rw [hlc]
      try simp -implicitDefEqProofs only [w_enumT, v_enumC, v_enumT, v_seqC, v_lenC, v_listC, v_listRL, w_keys, List.map_cons, List.map_nil, List.cons_append, List.nil_append, List.replicate, List.set_cons_succ, List.set_cons_zero, wipeG, wpS_then, wpS_set, wpS_if, wpS_mret, wpS_retN, wpS_mnext, wpS_mbrk, wpS_mcnt, wpS_exp, wpS_asg, wpS_for, w_c, w_bin, w_un, w_ifE, w_andV, w_orV, w_notV, w_call, w_chain, w_meth, w_meth0, w_sl, w_noPart, w_part, w_nil, w_cons, w_bl, w_tru, w_and, w_or, w_not, w_lcV, w_lcR, w_lc, w_seq, w_rng1, w_rng2, w_var0, w_var1, w_var2, w_var3, w_var4, w_var5, w_var6, w_var7, w_var8, w_var9, w_var10, w_var11, w_var12, w_var13, w_var14, w_var15, w_var16, w_var17, w_var18, w_var19, w_var20, w_dictT, w_dictK, w_gTp, wpS_par, wpS_par3, w_zip, w_enum, w_rev, v_zipL, v_zipT, v_enumL, v_revL, v_revT, w_gsCons, w_gsNil, w_callK, wpR_ok, wpR_sized, v_nm, v_addI, v_addS, v_addT, v_addL, v_sub, v_neg, w_mul, w_div, w_mod, w_pow, v_ordI, v_eqI, v_neI, v_eqS, v_neS, v_lenS, v_lenL, v_lenF, v_lenT, v_truB, v_seqS, v_seqT, v_seqL, v_seqF, v_listT, v_listL, v_tupleL, v_tupleT, v_tupD, v_lstD, v_lstR, v_slT, v_slL, v_slF, w_slS, defD_rt, defD_nx, defD_ex, defD_bk, defD_ct, AV.bl.injEq, AV.int.injEq, Option.some.injEq, exists_eq_left', tyS, if_true, if_false, Bool.false_eq_true, true_and, and_true]
      refine ⟨⟨some (.int (j : Nat)), ?_⟩, hF⟩
      rw [et, inv_snoc, List.countP_eq_length_filter]
      simp
    · rintro G M ⟨⟨g7, rfl⟩, hF⟩
      rw [rng_len, List.length_map, Nat.zero_add]
      have e : ((A.length : Int)).toNat = A.length := by simp
      rw [e, List.take_length]
      exact ⟨⟨_, rfl⟩, hF⟩
  rintro _ M ⟨⟨g7, rfl⟩, hM⟩
  have ht : gTuple [.ref ((wrest w l h ++ tmp).length + 1)] M = .ok (.tup (B.map nameA)) M := f_tuple (i := (wrest w l h ++ tmp).length) hM (g1 _)
  try simp -implicitDefEqProofs only [w_enumT, v_enumC, v_enumT, v_seqC, v_lenC, v_listC, v_listRL, w_keys, List.map_cons, List.map_nil, List.cons_append, List.nil_append, List.replicate, List.set_cons_succ, List.set_cons_zero, wipeG, wpS_then, wpS_set, wpS_if, wpS_mret, wpS_retN, wpS_mnext, wpS_mbrk, wpS_mcnt, wpS_exp, wpS_asg, wpS_for, w_c, w_bin, w_un, w_ifE, w_andV, w_orV, w_notV, w_call, w_chain, w_meth, w_meth0, w_sl, w_noPart, w_part, w_nil, w_cons, w_bl, w_tru, w_and, w_or, w_not, w_lcV, w_lcR, w_lc, w_seq, w_rng1, w_rng2, w_var0, w_var1, w_var2, w_var3, w_var4, w_var5, w_var6, w_var7, w_var8, w_var9, w_var10, w_var11, w_var12, w_var13, w_var14, w_var15, w_var16, w_var17, w_var18, w_var19, w_var20, w_dictT, w_dictK, w_gTp, wpS_par, wpS_par3, w_zip, w_enum, w_rev, v_zipL, v_zipT, v_enumL, v_revL, v_revT, w_gsCons, w_gsNil, w_callK, wpR_ok, wpR_sized, v_nm, v_addI, v_addS, v_addT, v_addL, v_sub, v_neg, w_mul, w_div, w_mod, w_pow, v_ordI, v_eqI, v_neI, v_eqS, v_neS, v_lenS, v_lenL, v_lenF, v_lenT, v_truB, v_seqS, v_seqT, v_seqL, v_seqF, v_listT, v_listL, v_tupleL, v_tupleT, v_tupD, v_lstD, v_lstR, v_slT, v_slL, v_slF, w_slS, defD_rt, defD_nx, defD_ex, defD_bk, defD_ct, AV.bl.injEq, AV.int.injEq, Option.some.injEq, exists_eq_left', tyS, if_true, if_false, Bool.false_eq_true, true_and, and_true, ht, v_eqTC, List.length_map, hkl]
  try simp
  exact q _ hM
theorem d_right {A B : List Nm} {ks : List Nat} (hM : Fs (wrest w l h ++ tmp) [] M) (hw : WOk w) (hl : w.length ≤ 20) (hA : Road w A) (hB : Road w B) (hW : Walk (plc B) A ks B)
    (q : ∀ M', Fs (wrest w l h ++ tmp) [] M' → P (.bl true) M') : wpR (m__law_right [.ref 5, .tuc (A.map nameA), .tuc (B.map nameA), .tup (ksA ks)] M) P E := by
  refine wp_gcF hM ?_
  refine wp_def rfl ?_
  unfold b__law_right
  have hAl : A.length ≤ 20 := by rw [hA.len hw]; exact hl
  have hBl : B.length = A.length := by rw [hA.len hw, hB.len hw]
  have hkl : ks.length = inv (plc B) A := by
    have h1 := hW.inv_
    have h2 : inv (plc B) B = 0 := inv_zero ((plc_sorted hB.1).imp fun h => Nat.le_of_lt h)
    omega
  have hkb : ks.length ≤ 400 := by
    have h1 := inv_le (p := plc B) A
    have h2 : A.length * A.length ≤ 20 * 20 := Nat.mul_le_mul hAl hAl
    omega
  refine wp_seq (fun G M' => G = [some (.ref 5), some (.tuc (A.map nameA)), some (.tuc (B.map nameA)), some (.tup (ksA ks)), none, none, none, none, none] ∧ M' = M) ?_ ?_
  · have hlc := lcl_map (l0 := ksA ks) (t := gNm 4) (c := mOr (mNot (mTru (mUn (gIsi "int") (mVar 4)))) (mTru (mUn (gIsi "bool") (mVar 4)))) (el := mVar 4) (G := [some (.ref 5), some (.tuc (A.map nameA)), some (.tuc (B.map nameA)), some (.tup (ksA ks)), none, none, none, none, none]) (M := M) (fun k : Nat => AV.int (k : Nat)) (fun _ => false) (fun k : Nat => AV.int (k : Nat)) ks [] (by simp; omega) fun k hk => ⟨_, rfl, wpR_eq (by
      try simp -implicitDefEqProofs only [w_enumT, v_enumC, v_enumT, v_seqC, v_lenC, v_listC, v_listRL, w_keys, List.map_cons, List.map_nil, List.cons_append, List.nil_append, List.replicate, List.set_cons_succ, List.set_cons_zero, wipeG, wpS_then, wpS_set, wpS_if, wpS_mret, wpS_retN, wpS_mnext, wpS_mbrk, wpS_mcnt, wpS_exp, wpS_asg, wpS_for, w_c, w_bin, w_un, w_ifE, w_andV, w_orV, w_notV, w_call, w_chain, w_meth, w_meth0, w_sl, w_noPart, w_part, w_nil, w_cons, w_bl, w_tru, w_and, w_or, w_not, w_lcV, w_lcR, w_lc, w_seq, w_rng1, w_rng2, w_var0, w_var1, w_var2, w_var3, w_var4, w_var5, w_var6, w_var7, w_var8, w_var9, w_var10, w_var11, w_var12, w_var13, w_var14, w_var15, w_var16, w_var17, w_var18, w_var19, w_var20, w_dictT, w_dictK, w_gTp, wpS_par, wpS_par3, w_zip, w_enum, w_rev, v_zipL, v_zipT, v_enumL, v_revL, v_revT, w_gsCons, w_gsNil, w_callK, wpR_ok, wpR_sized, v_nm, v_addI, v_addS, v_addT, v_addL, v_sub, v_neg, w_mul, w_div, w_mod, w_pow, v_ordI, v_eqI, v_neI, v_eqS, v_neS, v_lenS, v_lenL, v_lenF, v_lenT, v_truB, v_seqS, v_seqT, v_seqL, v_seqF, v_listT, v_listL, v_tupleL, v_tupleT, v_tupD, v_lstD, v_lstR, v_slT, v_slL, v_slF, w_slS, defD_rt, defD_nx, defD_ex, defD_bk, defD_ct, AV.bl.injEq, AV.int.injEq, Option.some.injEq, exists_eq_left', tyS, if_true, if_false, Bool.false_eq_true, true_and, and_true, v_isInt, v_isBool, Bool.not_true, Bool.false_eq_true, if_false]
      try simp), fun z => by cases z⟩
    have ef : ks.filter (fun _ => false) = [] := List.filter_eq_nil_iff.mpr fun _ _ => by simp
    rw [List.nil_append, ef, List.map_nil] at hlc
    have hne : gNe (.lst []) (.lst []) M = .ok (.bl false) M := v_neL0 (xs := []) rfl
    try simp -implicitDefEqProofs only [w_enumT, v_enumC, v_enumT, v_seqC, v_lenC, v_listC, v_listRL, w_keys, List.map_cons, List.map_nil, List.cons_append, List.nil_append, List.replicate, List.set_cons_succ, List.set_cons_zero, wipeG, wpS_then, wpS_set, wpS_if, wpS_mret, wpS_retN, wpS_mnext, wpS_mbrk, wpS_mcnt, wpS_exp, wpS_asg, wpS_for, w_c, w_bin, w_un, w_ifE, w_andV, w_orV, w_notV, w_call, w_chain, w_meth, w_meth0, w_sl, w_noPart, w_part, w_nil, w_cons, w_bl, w_tru, w_and, w_or, w_not, w_lcV, w_lcR, w_lc, w_seq, w_rng1, w_rng2, w_var0, w_var1, w_var2, w_var3, w_var4, w_var5, w_var6, w_var7, w_var8, w_var9, w_var10, w_var11, w_var12, w_var13, w_var14, w_var15, w_var16, w_var17, w_var18, w_var19, w_var20, w_dictT, w_dictK, w_gTp, wpS_par, wpS_par3, w_zip, w_enum, w_rev, v_zipL, v_zipT, v_enumL, v_revL, v_revT, w_gsCons, w_gsNil, w_callK, wpR_ok, wpR_sized, v_nm, v_addI, v_addS, v_addT, v_addL, v_sub, v_neg, w_mul, w_div, w_mod, w_pow, v_ordI, v_eqI, v_neI, v_eqS, v_neS, v_lenS, v_lenL, v_lenF, v_lenT, v_truB, v_seqS, v_seqT, v_seqL, v_seqF, v_listT, v_listL, v_tupleL, v_tupleT, v_tupD, v_lstD, v_lstR, v_slT, v_slL, v_slF, w_slS, defD_rt, defD_nx, defD_ex, defD_bk, defD_ct, AV.bl.injEq, AV.int.injEq, Option.some.injEq, exists_eq_left', tyS, if_true, if_false, Bool.false_eq_true, true_and, and_true, v_isTup, Bool.not_true, Bool.false_eq_true, if_false]
    rw [hlc]
    try simp -implicitDefEqProofs only [w_enumT, v_enumC, v_enumT, v_seqC, v_lenC, v_listC, v_listRL, w_keys, List.map_cons, List.map_nil, List.cons_append, List.nil_append, List.replicate, List.set_cons_succ, List.set_cons_zero, wipeG, wpS_then, wpS_set, wpS_if, wpS_mret, wpS_retN, wpS_mnext, wpS_mbrk, wpS_mcnt, wpS_exp, wpS_asg, wpS_for, w_c, w_bin, w_un, w_ifE, w_andV, w_orV, w_notV, w_call, w_chain, w_meth, w_meth0, w_sl, w_noPart, w_part, w_nil, w_cons, w_bl, w_tru, w_and, w_or, w_not, w_lcV, w_lcR, w_lc, w_seq, w_rng1, w_rng2, w_var0, w_var1, w_var2, w_var3, w_var4, w_var5, w_var6, w_var7, w_var8, w_var9, w_var10, w_var11, w_var12, w_var13, w_var14, w_var15, w_var16, w_var17, w_var18, w_var19, w_var20, w_dictT, w_dictK, w_gTp, wpS_par, wpS_par3, w_zip, w_enum, w_rev, v_zipL, v_zipT, v_enumL, v_revL, v_revT, w_gsCons, w_gsNil, w_callK, wpR_ok, wpR_sized, v_nm, v_addI, v_addS, v_addT, v_addL, v_sub, v_neg, w_mul, w_div, w_mod, w_pow, v_ordI, v_eqI, v_neI, v_eqS, v_neS, v_lenS, v_lenL, v_lenF, v_lenT, v_truB, v_seqS, v_seqT, v_seqL, v_seqF, v_listT, v_listL, v_tupleL, v_tupleT, v_tupD, v_lstD, v_lstR, v_slT, v_slL, v_slF, w_slS, defD_rt, defD_nx, defD_ex, defD_bk, defD_ct, AV.bl.injEq, AV.int.injEq, Option.some.injEq, exists_eq_left', tyS, if_true, if_false, Bool.false_eq_true, true_and, and_true, hne]
    try simp
  rintro _ _ ⟨rfl, rfl⟩
  refine wp_seq (fun G M => G = [some (.ref 5), some (.tuc (A.map nameA)), some (.tuc (B.map nameA)), some (.tup (ksA ks)), none, some (.ref ((wrest w l h ++ tmp).length + 1)), none, none, none] ∧ Fs (wrest w l h ++ tmp ++ [.lst (A.map nameA)]) [] M) ?_ ?_
  · try simp -implicitDefEqProofs only [w_enumT, v_enumC, v_enumT, v_seqC, v_lenC, v_listC, v_listRL, w_keys, List.map_cons, List.map_nil, List.cons_append, List.nil_append, List.replicate, List.set_cons_succ, List.set_cons_zero, wipeG, wpS_then, wpS_set, wpS_if, wpS_mret, wpS_retN, wpS_mnext, wpS_mbrk, wpS_mcnt, wpS_exp, wpS_asg, wpS_for, w_c, w_bin, w_un, w_ifE, w_andV, w_orV, w_notV, w_call, w_chain, w_meth, w_meth0, w_sl, w_noPart, w_part, w_nil, w_cons, w_bl, w_tru, w_and, w_or, w_not, w_lcV, w_lcR, w_lc, w_seq, w_rng1, w_rng2, w_var0, w_var1, w_var2, w_var3, w_var4, w_var5, w_var6, w_var7, w_var8, w_var9, w_var10, w_var11, w_var12, w_var13, w_var14, w_var15, w_var16, w_var17, w_var18, w_var19, w_var20, w_dictT, w_dictK, w_gTp, wpS_par, wpS_par3, w_zip, w_enum, w_rev, v_zipL, v_zipT, v_enumL, v_revL, v_revT, w_gsCons, w_gsNil, w_callK, wpR_ok, wpR_sized, v_nm, v_addI, v_addS, v_addT, v_addL, v_sub, v_neg, w_mul, w_div, w_mod, w_pow, v_ordI, v_eqI, v_neI, v_eqS, v_neS, v_lenS, v_lenL, v_lenF, v_lenT, v_truB, v_seqS, v_seqT, v_seqL, v_seqF, v_listT, v_listL, v_tupleL, v_tupleT, v_tupD, v_lstD, v_lstR, v_slT, v_slL, v_slF, w_slS, defD_rt, defD_nx, defD_ex, defD_bk, defD_ct, AV.bl.injEq, AV.int.injEq, Option.some.injEq, exists_eq_left', tyS, if_true, if_false, Bool.false_eq_true, true_and, and_true]
    rw [hM.len]
    exact ⟨rfl, hM.push _⟩
  rintro _ M ⟨rfl, hM⟩
  have g1 : ∀ xs : List AV, (wrest w l h ++ tmp ++ [AV.lst xs])[(wrest w l h ++ tmp).length]? = some (.lst xs) := fun xs => by simp
  have hset : ∀ xs ys : List AV, (wrest w l h ++ tmp ++ [AV.lst xs]).set (wrest w l h ++ tmp).length (.lst ys) = wrest w l h ++ tmp ++ [AV.lst ys] := fun xs ys => by simp
  refine wp_seq (fun G M => (∃ g4, G = [some (.ref 5), some (.tuc (A.map nameA)), some (.tuc (B.map nameA)), some (.tup (ksA ks)), g4, some (.ref ((wrest w l h ++ tmp).length + 1)), none, none, none]) ∧ Fs (wrest w l h ++ tmp ++ [.lst (B.map nameA)]) [] M) ?_ ?_
  · rw [wpS_for]
    try simp -implicitDefEqProofs only [w_enumT, v_enumC, v_enumT, v_seqC, v_lenC, v_listC, v_listRL, w_keys, List.map_cons, List.map_nil, List.cons_append, List.nil_append, List.replicate, List.set_cons_succ, List.set_cons_zero, wipeG, wpS_then, wpS_set, wpS_if, wpS_mret, wpS_retN, wpS_mnext, wpS_mbrk, wpS_mcnt, wpS_exp, wpS_asg, wpS_for, w_c, w_bin, w_un, w_ifE, w_andV, w_orV, w_notV, w_call, w_chain, w_meth, w_meth0, w_sl, w_noPart, w_part, w_nil, w_cons, w_bl, w_tru, w_and, w_or, w_not, w_lcV, w_lcR, w_lc, w_seq, w_rng1, w_rng2, w_var0, w_var1, w_var2, w_var3, w_var4, w_var5, w_var6, w_var7, w_var8, w_var9, w_var10, w_var11, w_var12, w_var13, w_var14, w_var15, w_var16, w_var17, w_var18, w_var19, w_var20, w_dictT, w_dictK, w_gTp, wpS_par, wpS_par3, w_zip, w_enum, w_rev, v_zipL, v_zipT, v_enumL, v_revL, v_revT, w_gsCons, w_gsNil, w_callK, wpR_ok, wpR_sized, v_nm, v_addI, v_addS, v_addT, v_addL, v_sub, v_neg, w_mul, w_div, w_mod, w_pow, v_ordI, v_eqI, v_neI, v_eqS, v_neS, v_lenS, v_lenL, v_lenF, v_lenT, v_truB, v_seqS, v_seqT, v_seqL, v_seqF, v_listT, v_listL, v_tupleL, v_tupleT, v_tupD, v_lstD, v_lstR, v_slT, v_slL, v_slF, w_slS, defD_rt, defD_nx, defD_ex, defD_bk, defD_ct, AV.bl.injEq, AV.int.injEq, Option.some.injEq, exists_eq_left', tyS, if_true, if_false, Bool.false_eq_true, true_and, and_true]
    refine wp_loop (fun j G M => (∃ g4, G = [some (.ref 5), some (.tuc (A.map nameA)), some (.tuc (B.map nameA)), some (.tup (ksA ks)), g4, some (.ref ((wrest w l h ++ tmp).length + 1)), none, none, none]) ∧ ∃ C, A.Perm C ∧ Walk (plc B) C (ks.drop j) B ∧ Fs (wrest w l h ++ tmp ++ [.lst (C.map nameA)]) [] M) _ 0 _ _ ⟨⟨_, rfl⟩, A, .refl _, hW, hM⟩ ?_ ?_
    · rintro j x G M hj ⟨⟨g4, rfl⟩, C, hAC, hWC, hF⟩
      rw [Nat.zero_add] at hWC ⊢
      obtain ⟨hj2, hj3⟩ := List.getElem?_eq_some_iff.mp hj
      rw [List.length_map] at hj2
      rw [List.getElem_map] at hj3
      subst hj3
      have ed : ks.drop j = ks[j] :: ks.drop (j + 1) := List.drop_eq_getElem_cons hj2
      rw [ed] at hWC
      obtain ⟨k, hk⟩ : ∃ k, ks[j] = k := ⟨_, rfl⟩
      rw [hk] at hWC ⊢
      obtain ⟨⟨a, b, h1, h2, h3⟩, hW2⟩ := hWC
      have hk1 := (List.getElem?_eq_some_iff.mp h2).1
      have hCl : C.length ≤ 20 := by rw [← hAC.length_eq]; exact hAl
      have hbw : b ∈ namesW w := (hA.2.1 b).mp (hAC.mem_iff.mpr (List.mem_of_getElem? h2))
      have hnk : a ∉ knowsW w b := fun z => by
        have := hB.lt hbw z
        omega
      have hM' : Fs (wrest w l h ++ (tmp ++ [.lst (C.map nameA)])) [] M := by rw [← List.append_assoc]; exact hF
      obtain ⟨r, e1, hr, e2, e3⟩ := knows_in hbw
      have hkn := w_knAt hM' e1
      have i1 : atI (C.map nameA) ((k : Int) + 1) = some (nameA b) := by
        rw [show ((k : Int) + 1) = ((k + 1 : Nat) : Int) by omega, at_nat (by rw [List.length_map]; omega)]
        rw [List.getElem_map]
        congr 2
        exact (List.getElem?_eq_some_iff.mp h2).2
      have i2 : atI (C.map nameA) (k : Int) = some (nameA a) := by
        rw [at_nat (by rw [List.length_map]; omega)]
        rw [List.getElem_map]
        congr 2
        exact (List.getElem?_eq_some_iff.mp h1).2
      have hlen : gLen [.ref ((wrest w l h ++ tmp).length + 1)] M = .ok (.int (C.map nameA).length) M := f_len hF (g1 _)
      have hin : gIn false (nameA a) (flA r) M = .ok (.bl false) M := by
        unfold flA
        rw [v_inN]
        simp only [Bool.false_eq_true, if_false]
        rw [decide_eq_false (by rw [← e3]; exact hnk)]
      try simp -implicitDefEqProofs only [w_enumT, v_enumC, v_enumT, v_seqC, v_lenC, v_listC, v_listRL, w_keys, List.map_cons, List.map_nil, List.cons_append, List.nil_append, List.replicate, List.set_cons_succ, List.set_cons_zero, wipeG, wpS_then, wpS_set, wpS_if, wpS_mret, wpS_retN, wpS_mnext, wpS_mbrk, wpS_mcnt, wpS_exp, wpS_asg, wpS_for, w_c, w_bin, w_un, w_ifE, w_andV, w_orV, w_notV, w_call, w_chain, w_meth, w_meth0, w_sl, w_noPart, w_part, w_nil, w_cons, w_bl, w_tru, w_and, w_or, w_not, w_lcV, w_lcR, w_lc, w_seq, w_rng1, w_rng2, w_var0, w_var1, w_var2, w_var3, w_var4, w_var5, w_var6, w_var7, w_var8, w_var9, w_var10, w_var11, w_var12, w_var13, w_var14, w_var15, w_var16, w_var17, w_var18, w_var19, w_var20, w_dictT, w_dictK, w_gTp, wpS_par, wpS_par3, w_zip, w_enum, w_rev, v_zipL, v_zipT, v_enumL, v_revL, v_revT, w_gsCons, w_gsNil, w_callK, wpR_ok, wpR_sized, v_nm, v_addI, v_addS, v_addT, v_addL, v_sub, v_neg, w_mul, w_div, w_mod, w_pow, v_ordI, v_eqI, v_neI, v_eqS, v_neS, v_lenS, v_lenL, v_lenF, v_lenT, v_truB, v_seqS, v_seqT, v_seqL, v_seqF, v_listT, v_listL, v_tupleL, v_tupleT, v_tupD, v_lstD, v_lstR, v_slT, v_slL, v_slF, w_slS, defD_rt, defD_nx, defD_ex, defD_bk, defD_ct, AV.bl.injEq, AV.int.injEq, Option.some.injEq, exists_eq_left', tyS, if_true, if_false, Bool.false_eq_true, true_and, and_true, hlen]
      rw [if_pos (decide_eq_true (by omega)), if_neg (by simp; omega)]
      try simp -implicitDefEqProofs only [w_enumT, v_enumC, v_enumT, v_seqC, v_lenC, v_listC, v_listRL, w_keys, List.map_cons, List.map_nil, List.cons_append, List.nil_append, List.replicate, List.set_cons_succ, List.set_cons_zero, wipeG, wpS_then, wpS_set, wpS_if, wpS_mret, wpS_retN, wpS_mnext, wpS_mbrk, wpS_mcnt, wpS_exp, wpS_asg, wpS_for, w_c, w_bin, w_un, w_ifE, w_andV, w_orV, w_notV, w_call, w_chain, w_meth, w_meth0, w_sl, w_noPart, w_part, w_nil, w_cons, w_bl, w_tru, w_and, w_or, w_not, w_lcV, w_lcR, w_lc, w_seq, w_rng1, w_rng2, w_var0, w_var1, w_var2, w_var3, w_var4, w_var5, w_var6, w_var7, w_var8, w_var9, w_var10, w_var11, w_var12, w_var13, w_var14, w_var15, w_var16, w_var17, w_var18, w_var19, w_var20, w_dictT, w_dictK, w_gTp, wpS_par, wpS_par3, w_zip, w_enum, w_rev, v_zipL, v_zipT, v_enumL, v_revL, v_revT, w_gsCons, w_gsNil, w_callK, wpR_ok, wpR_sized, v_nm, v_addI, v_addS, v_addT, v_addL, v_sub, v_neg, w_mul, w_div, w_mod, w_pow, v_ordI, v_eqI, v_neI, v_eqS, v_neS, v_lenS, v_lenL, v_lenF, v_lenT, v_truB, v_seqS, v_seqT, v_seqL, v_seqF, v_listT, v_listL, v_tupleL, v_tupleT, v_tupD, v_lstD, v_lstR, v_slT, v_slL, v_slF, w_slS, defD_rt, defD_nx, defD_ex, defD_bk, defD_ct, AV.bl.injEq, AV.int.injEq, Option.some.injEq, exists_eq_left', tyS, if_true, if_false, Bool.false_eq_true, true_and, and_true, f_ix hF (g1 _), i1, i2, w_kn hM', hkn, hin]
      refine ⟨by simp, ?_⟩
      refine f_putSl (i := (wrest w l h ++ tmp).length) (k := k) (m := k + 2) hF (g1 _) rfl rfl (by
        show Res.ok (some ((k : Int) + 2)) M = _
        rw [show ((k : Int) + 2) = ((k + 2 : Nat) : Int) by omega]) (by omega) (by rw [List.length_map]; omega) (by simp; omega) fun M2 h2' => ?_
      rw [hset] at h2'
      refine ⟨⟨_, rfl⟩, swp C k, hAC.trans (swp_perm C k).symm, hW2, ?_⟩
      rw [swp_eq C k a b h1 h2]
      simpa using h2'
    · rintro G M ⟨hG, C, _, hWC, hF⟩
      rw [Nat.zero_add, List.length_map, List.drop_length] at hWC
      have e : C = B := hWC
      subst e
      exact ⟨hG, hF⟩
  rintro G0 M ⟨⟨g4, hG0⟩, hM⟩
  exact d_rightT (g4 := g4) (ks := ks) hG0 (D := defD (fun a M' => plain 60 a = true ∧ (∃ tmp_1, Fs (wrest w l h ++ tmp ++ tmp_1) [] M') ∧ ∀ M'' : AH, Fs (wrest w l h ++ tmp) [] M'' → P a M'') fun _ _ _ => False) hM hAl hkl hA hB fun M' h' => ⟨rfl, h'.tmp, q⟩
end
abbrev roA (R : List Nm) : AV := .tuc (R.map nameA)
theorem law_ok : Mx.LawOk m_law := by
  intro ns hn
  refine law_of (wp_def rfl ?_)
  unfold b_law
  have h0 : 0 ∉ ([] : List Nat) := by simp
  refine wp_seq (fun G M => G = [some (.fro (ns.map .int)), some (.ref 0), none, none, none, none, none, none, none, none, none, none] ∧ Fs [] [] M) ?_ ?_
  · try simp -implicitDefEqProofs only [w_enumT, v_enumC, v_enumT, v_seqC, v_lenC, v_listC, v_listRL, w_keys, List.map_cons, List.map_nil, List.cons_append, List.nil_append, List.replicate, List.set_cons_succ, List.set_cons_zero, wipeG, wpS_then, wpS_set, wpS_if, wpS_mret, wpS_retN, wpS_mnext, wpS_mbrk, wpS_mcnt, wpS_exp, wpS_asg, wpS_for, w_c, w_bin, w_un, w_ifE, w_andV, w_orV, w_notV, w_call, w_chain, w_meth, w_meth0, w_sl, w_noPart, w_part, w_nil, w_cons, w_bl, w_tru, w_and, w_or, w_not, w_lcV, w_lcR, w_lc, w_seq, w_rng1, w_rng2, w_var0, w_var1, w_var2, w_var3, w_var4, w_var5, w_var6, w_var7, w_var8, w_var9, w_var10, w_var11, w_var12, w_var13, w_var14, w_var15, w_var16, w_var17, w_var18, w_var19, w_var20, w_dictT, w_dictK, w_gTp, wpS_par, wpS_par3, w_zip, w_enum, w_rev, v_zipL, v_zipT, v_enumL, v_revL, v_revT, w_gsCons, w_gsNil, w_callK, wpR_ok, wpR_sized, v_nm, v_addI, v_addS, v_addT, v_addL, v_sub, v_neg, w_mul, w_div, w_mod, w_pow, v_ordI, v_eqI, v_neI, v_eqS, v_neS, v_lenS, v_lenL, v_lenF, v_lenT, v_truB, v_seqS, v_seqT, v_seqL, v_seqF, v_listT, v_listL, v_tupleL, v_tupleT, v_tupD, v_lstD, v_lstR, v_slT, v_slL, v_slF, w_slS, defD_rt, defD_nx, defD_ex, defD_bk, defD_ct, AV.bl.injEq, AV.int.injEq, Option.some.injEq, exists_eq_left', tyS, if_true, if_false, Bool.false_eq_true, true_and, and_true, e_feed]
    refine w_feed fun M hF => ?_
    exact ⟨rfl, hF⟩
  rintro _ M ⟨rfl, hM⟩
  refine wp_seq (fun G M => ∃ ws : List Str, 0 < ws.length ∧ ws.length ≤ 6 ∧ (∀ x ∈ ws, Tx AnyC 20 x) ∧ G = [some (.fro (ns.map .int)), some (.ref 0), some (.lst (ws.map .str)), none, none, none, none, none, none, none, none, none] ∧ Fs [] [] M) ?_ ?_
  · try simp -implicitDefEqProofs only [w_enumT, v_enumC, v_enumT, v_seqC, v_lenC, v_listC, v_listRL, w_keys, List.map_cons, List.map_nil, List.cons_append, List.nil_append, List.replicate, List.set_cons_succ, List.set_cons_zero, wipeG, wpS_then, wpS_set, wpS_if, wpS_mret, wpS_retN, wpS_mnext, wpS_mbrk, wpS_mcnt, wpS_exp, wpS_asg, wpS_for, w_c, w_bin, w_un, w_ifE, w_andV, w_orV, w_notV, w_call, w_chain, w_meth, w_meth0, w_sl, w_noPart, w_part, w_nil, w_cons, w_bl, w_tru, w_and, w_or, w_not, w_lcV, w_lcR, w_lc, w_seq, w_rng1, w_rng2, w_var0, w_var1, w_var2, w_var3, w_var4, w_var5, w_var6, w_var7, w_var8, w_var9, w_var10, w_var11, w_var12, w_var13, w_var14, w_var15, w_var16, w_var17, w_var18, w_var19, w_var20, w_dictT, w_dictK, w_gTp, wpS_par, wpS_par3, w_zip, w_enum, w_rev, v_zipL, v_zipT, v_enumL, v_revL, v_revT, w_gsCons, w_gsNil, w_callK, wpR_ok, wpR_sized, v_nm, v_addI, v_addS, v_addT, v_addL, v_sub, v_neg, w_mul, w_div, w_mod, w_pow, v_ordI, v_eqI, v_neI, v_eqS, v_neS, v_lenS, v_lenL, v_lenF, v_lenT, v_truB, v_seqS, v_seqT, v_seqL, v_seqF, v_listT, v_listL, v_tupleL, v_tupleT, v_tupD, v_lstD, v_lstR, v_slT, v_slL, v_slF, w_slS, defD_rt, defD_nx, defD_ex, defD_bk, defD_ct, AV.bl.injEq, AV.int.injEq, Option.some.injEq, exists_eq_left', tyS, if_true, if_false, Bool.false_eq_true, true_and, and_true, e_draw, e_words]
    refine d_draw h0 hM (by decide) (by decide) fun n M1 n0 n1 h1 => ?_
    try simp -implicitDefEqProofs only [w_enumT, v_enumC, v_enumT, v_seqC, v_lenC, v_listC, v_listRL, w_keys, List.map_cons, List.map_nil, List.cons_append, List.nil_append, List.replicate, List.set_cons_succ, List.set_cons_zero, wipeG, wpS_then, wpS_set, wpS_if, wpS_mret, wpS_retN, wpS_mnext, wpS_mbrk, wpS_mcnt, wpS_exp, wpS_asg, wpS_for, w_c, w_bin, w_un, w_ifE, w_andV, w_orV, w_notV, w_call, w_chain, w_meth, w_meth0, w_sl, w_noPart, w_part, w_nil, w_cons, w_bl, w_tru, w_and, w_or, w_not, w_lcV, w_lcR, w_lc, w_seq, w_rng1, w_rng2, w_var0, w_var1, w_var2, w_var3, w_var4, w_var5, w_var6, w_var7, w_var8, w_var9, w_var10, w_var11, w_var12, w_var13, w_var14, w_var15, w_var16, w_var17, w_var18, w_var19, w_var20, w_dictT, w_dictK, w_gTp, wpS_par, wpS_par3, w_zip, w_enum, w_rev, v_zipL, v_zipT, v_enumL, v_revL, v_revT, w_gsCons, w_gsNil, w_callK, wpR_ok, wpR_sized, v_nm, v_addI, v_addS, v_addT, v_addL, v_sub, v_neg, w_mul, w_div, w_mod, w_pow, v_ordI, v_eqI, v_neI, v_eqS, v_neS, v_lenS, v_lenL, v_lenF, v_lenT, v_truB, v_seqS, v_seqT, v_seqL, v_seqF, v_listT, v_listL, v_tupleL, v_tupleT, v_tupD, v_lstD, v_lstR, v_slT, v_slL, v_slF, w_slS, defD_rt, defD_nx, defD_ex, defD_bk, defD_ct, AV.bl.injEq, AV.int.injEq, Option.some.injEq, exists_eq_left', tyS, if_true, if_false, Bool.false_eq_true, true_and, and_true]
    rw [show (1 + n : Int) = ((1 + n.toNat : Nat) : Int) by omega]
    refine d_words h0 h1 (by omega) fun ws M2 hw h2 => ?_
    exact ⟨ws, by rw [hw.1]; omega, by rw [hw.1]; omega, hw.2, rfl, h2⟩
  rintro _ M ⟨ws, w0, w6, hws, rfl, hM⟩
  refine wp_seq (fun G M => ∃ w l h, WOk w ∧ w.length ≤ 20 ∧ G = [some (.fro (ns.map .int)), some (.ref 0), some (.lst (ws.map .str)), some (.ref 5), none, none, none, none, none, none, none, none] ∧ Fs (wrest w l h ++ []) [] M) ?_ ?_
  · try simp -implicitDefEqProofs only [w_enumT, v_enumC, v_enumT, v_seqC, v_lenC, v_listC, v_listRL, w_keys, List.map_cons, List.map_nil, List.cons_append, List.nil_append, List.replicate, List.set_cons_succ, List.set_cons_zero, wipeG, wpS_then, wpS_set, wpS_if, wpS_mret, wpS_retN, wpS_mnext, wpS_mbrk, wpS_mcnt, wpS_exp, wpS_asg, wpS_for, w_c, w_bin, w_un, w_ifE, w_andV, w_orV, w_notV, w_call, w_chain, w_meth, w_meth0, w_sl, w_noPart, w_part, w_nil, w_cons, w_bl, w_tru, w_and, w_or, w_not, w_lcV, w_lcR, w_lc, w_seq, w_rng1, w_rng2, w_var0, w_var1, w_var2, w_var3, w_var4, w_var5, w_var6, w_var7, w_var8, w_var9, w_var10, w_var11, w_var12, w_var13, w_var14, w_var15, w_var16, w_var17, w_var18, w_var19, w_var20, w_dictT, w_dictK, w_gTp, wpS_par, wpS_par3, w_zip, w_enum, w_rev, v_zipL, v_zipT, v_enumL, v_revL, v_revT, w_gsCons, w_gsNil, w_callK, wpR_ok, wpR_sized, v_nm, v_addI, v_addS, v_addT, v_addL, v_sub, v_neg, w_mul, w_div, w_mod, w_pow, v_ordI, v_eqI, v_neI, v_eqS, v_neS, v_lenS, v_lenL, v_lenF, v_lenT, v_truB, v_seqS, v_seqT, v_seqL, v_seqF, v_listT, v_listL, v_tupleL, v_tupleT, v_tupD, v_lstD, v_lstR, v_slT, v_slL, v_slF, w_slS, defD_rt, defD_nx, defD_ex, defD_bk, defD_ct, AV.bl.injEq, AV.int.injEq, Option.some.injEq, exists_eq_left', tyS, if_true, if_false, Bool.false_eq_true, true_and, and_true, e_draw, e_world]
    refine d_draw h0 hM (by decide) (by decide) fun n M1 n0 n1 h1 => ?_
    try simp -implicitDefEqProofs only [w_enumT, v_enumC, v_enumT, v_seqC, v_lenC, v_listC, v_listRL, w_keys, List.map_cons, List.map_nil, List.cons_append, List.nil_append, List.replicate, List.set_cons_succ, List.set_cons_zero, wipeG, wpS_then, wpS_set, wpS_if, wpS_mret, wpS_retN, wpS_mnext, wpS_mbrk, wpS_mcnt, wpS_exp, wpS_asg, wpS_for, w_c, w_bin, w_un, w_ifE, w_andV, w_orV, w_notV, w_call, w_chain, w_meth, w_meth0, w_sl, w_noPart, w_part, w_nil, w_cons, w_bl, w_tru, w_and, w_or, w_not, w_lcV, w_lcR, w_lc, w_seq, w_rng1, w_rng2, w_var0, w_var1, w_var2, w_var3, w_var4, w_var5, w_var6, w_var7, w_var8, w_var9, w_var10, w_var11, w_var12, w_var13, w_var14, w_var15, w_var16, w_var17, w_var18, w_var19, w_var20, w_dictT, w_dictK, w_gTp, wpS_par, wpS_par3, w_zip, w_enum, w_rev, v_zipL, v_zipT, v_enumL, v_revL, v_revT, w_gsCons, w_gsNil, w_callK, wpR_ok, wpR_sized, v_nm, v_addI, v_addS, v_addT, v_addL, v_sub, v_neg, w_mul, w_div, w_mod, w_pow, v_ordI, v_eqI, v_neI, v_eqS, v_neS, v_lenS, v_lenL, v_lenF, v_lenT, v_truB, v_seqS, v_seqT, v_seqL, v_seqF, v_listT, v_listL, v_tupleL, v_tupleT, v_tupD, v_lstD, v_lstR, v_slT, v_slL, v_slF, w_slS, defD_rt, defD_nx, defD_ex, defD_bk, defD_ct, AV.bl.injEq, AV.int.injEq, Option.some.injEq, exists_eq_left', tyS, if_true, if_false, Bool.false_eq_true, true_and, and_true]
    split
    · refine d_wide h1 w6 hws fun w M2 hw hl h2 => ?_
      exact ⟨w, [], [], hw, hl, rfl, by rwa [List.append_nil]⟩
    · refine d_draw h0 h1 (by decide) (by decide) fun n M1 n0 n1 h1 => ?_
      refine d_world h1 w0 w6 hws n0 (by omega) fun w l h M2 hw hl h2 => ?_
      exact ⟨w, l, h, hw.ok, hw.wl, rfl, by rwa [List.append_nil]⟩
  rintro _ M ⟨w, l, h, hw, hl, rfl, hM⟩
  have hal := len_allN (w := w)
  have hnd : (allN w).Nodup := nd_sortN hw.nd
  refine wp_seq (fun G M => G = [some (.fro (ns.map .int)), some (.ref 0), some (.lst (ws.map .str)), some (.ref 5), some (.lst ((allN w).map nameA)), none, none, none, none, none, none, none] ∧ Fs (wrest w l h ++ []) [] M) ?_ ?_
  · try simp -implicitDefEqProofs only [w_enumT, v_enumC, v_enumT, v_seqC, v_lenC, v_listC, v_listRL, w_keys, List.map_cons, List.map_nil, List.cons_append, List.nil_append, List.replicate, List.set_cons_succ, List.set_cons_zero, wipeG, wpS_then, wpS_set, wpS_if, wpS_mret, wpS_retN, wpS_mnext, wpS_mbrk, wpS_mcnt, wpS_exp, wpS_asg, wpS_for, w_c, w_bin, w_un, w_ifE, w_andV, w_orV, w_notV, w_call, w_chain, w_meth, w_meth0, w_sl, w_noPart, w_part, w_nil, w_cons, w_bl, w_tru, w_and, w_or, w_not, w_lcV, w_lcR, w_lc, w_seq, w_rng1, w_rng2, w_var0, w_var1, w_var2, w_var3, w_var4, w_var5, w_var6, w_var7, w_var8, w_var9, w_var10, w_var11, w_var12, w_var13, w_var14, w_var15, w_var16, w_var17, w_var18, w_var19, w_var20, w_dictT, w_dictK, w_gTp, wpS_par, wpS_par3, w_zip, w_enum, w_rev, v_zipL, v_zipT, v_enumL, v_revL, v_revT, w_gsCons, w_gsNil, w_callK, wpR_ok, wpR_sized, v_nm, v_addI, v_addS, v_addT, v_addL, v_sub, v_neg, w_mul, w_div, w_mod, w_pow, v_ordI, v_eqI, v_neI, v_eqS, v_neS, v_lenS, v_lenL, v_lenF, v_lenT, v_truB, v_seqS, v_seqT, v_seqL, v_seqF, v_listT, v_listL, v_tupleL, v_tupleT, v_tupD, v_lstD, v_lstR, v_slT, v_slL, v_slF, w_slS, defD_rt, defD_nx, defD_ex, defD_bk, defD_ct, AV.bl.injEq, AV.int.injEq, Option.some.injEq, exists_eq_left', tyS, if_true, if_false, Bool.false_eq_true, true_and, and_true, w_ch hM, w_sortCh hM]
    first | exact ⟨rfl, hM⟩ | exact hM
  rintro _ M ⟨rfl, hM⟩
  have hled : m_ledger [.ref 5, .lst ((allN w).map nameA)] M = .ok (ledA w (allN w)) M := by
    rw [d_ledger hM hl]
    congr 2
    exact List.filter_eq_self.mpr fun n hn => decide_eq_true hn
  refine wp_seq (fun G M => G = [some (.fro (ns.map .int)), some (.ref 0), some (.lst (ws.map .str)), some (.ref 5), some (.lst ((allN w).map nameA)), some (ledA w (allN w)), none, none, none, none, none, none] ∧ Fs (wrest w l h ++ []) [] M) ?_ ?_
  · try simp -implicitDefEqProofs only [w_enumT, v_enumC, v_enumT, v_seqC, v_lenC, v_listC, v_listRL, w_keys, List.map_cons, List.map_nil, List.cons_append, List.nil_append, List.replicate, List.set_cons_succ, List.set_cons_zero, wipeG, wpS_then, wpS_set, wpS_if, wpS_mret, wpS_retN, wpS_mnext, wpS_mbrk, wpS_mcnt, wpS_exp, wpS_asg, wpS_for, w_c, w_bin, w_un, w_ifE, w_andV, w_orV, w_notV, w_call, w_chain, w_meth, w_meth0, w_sl, w_noPart, w_part, w_nil, w_cons, w_bl, w_tru, w_and, w_or, w_not, w_lcV, w_lcR, w_lc, w_seq, w_rng1, w_rng2, w_var0, w_var1, w_var2, w_var3, w_var4, w_var5, w_var6, w_var7, w_var8, w_var9, w_var10, w_var11, w_var12, w_var13, w_var14, w_var15, w_var16, w_var17, w_var18, w_var19, w_var20, w_dictT, w_dictK, w_gTp, wpS_par, wpS_par3, w_zip, w_enum, w_rev, v_zipL, v_zipT, v_enumL, v_revL, v_revT, w_gsCons, w_gsNil, w_callK, wpR_ok, wpR_sized, v_nm, v_addI, v_addS, v_addT, v_addL, v_sub, v_neg, w_mul, w_div, w_mod, w_pow, v_ordI, v_eqI, v_neI, v_eqS, v_neS, v_lenS, v_lenL, v_lenF, v_lenT, v_truB, v_seqS, v_seqT, v_seqL, v_seqF, v_listT, v_listL, v_tupleL, v_tupleT, v_tupD, v_lstD, v_lstR, v_slT, v_slL, v_slF, w_slS, defD_rt, defD_nx, defD_ex, defD_bk, defD_ct, AV.bl.injEq, AV.int.injEq, Option.some.injEq, exists_eq_left', tyS, if_true, if_false, Bool.false_eq_true, true_and, and_true, e_ledger, hled]
    first | exact ⟨rfl, hM⟩ | exact hM
  rintro _ M ⟨rfl, hM⟩
  refine wp_seq (fun G M => ∃ Rs : List (List Nm), Rs.length = 3 ∧ (∀ R ∈ Rs, Road w R) ∧ G = [some (.fro (ns.map .int)), some (.ref 0), some (.lst (ws.map .str)), some (.ref 5), some (.lst ((allN w).map nameA)), some (ledA w (allN w)), some (.lst (Rs.map roA)), none, none, none, none, none] ∧ Fs (wrest w l h ++ []) [] M) ?_ ?_
  · try simp -implicitDefEqProofs only [w_enumT, v_enumC, v_enumT, v_seqC, v_lenC, v_listC, v_listRL, w_keys, List.map_cons, List.map_nil, List.cons_append, List.nil_append, List.replicate, List.set_cons_succ, List.set_cons_zero, wipeG, wpS_then, wpS_set, wpS_if, wpS_mret, wpS_retN, wpS_mnext, wpS_mbrk, wpS_mcnt, wpS_exp, wpS_asg, wpS_for, w_c, w_bin, w_un, w_ifE, w_andV, w_orV, w_notV, w_call, w_chain, w_meth, w_meth0, w_sl, w_noPart, w_part, w_nil, w_cons, w_bl, w_tru, w_and, w_or, w_not, w_lcV, w_lcR, w_lc, w_seq, w_rng1, w_rng2, w_var0, w_var1, w_var2, w_var3, w_var4, w_var5, w_var6, w_var7, w_var8, w_var9, w_var10, w_var11, w_var12, w_var13, w_var14, w_var15, w_var16, w_var17, w_var18, w_var19, w_var20, w_dictT, w_dictK, w_gTp, wpS_par, wpS_par3, w_zip, w_enum, w_rev, v_zipL, v_zipT, v_enumL, v_revL, v_revT, w_gsCons, w_gsNil, w_callK, wpR_ok, wpR_sized, v_nm, v_addI, v_addS, v_addT, v_addL, v_sub, v_neg, w_mul, w_div, w_mod, w_pow, v_ordI, v_eqI, v_neI, v_eqS, v_neS, v_lenS, v_lenL, v_lenF, v_lenT, v_truB, v_seqS, v_seqT, v_seqL, v_seqF, v_listT, v_listL, v_tupleL, v_tupleT, v_tupD, v_lstD, v_lstR, v_slT, v_slL, v_slF, w_slS, defD_rt, defD_nx, defD_ex, defD_bk, defD_ct, AV.bl.injEq, AV.int.injEq, Option.some.injEq, exists_eq_left', tyS, if_true, if_false, Bool.false_eq_true, true_and, and_true]
    rw [w_gRng1 (by decide)]
    refine wp_lclI (fun k acc M => (∃ Rs : List (List Nm), acc = Rs.map roA ∧ Rs.length = k ∧ ∀ R ∈ Rs, Road w R) ∧ Fs (wrest w l h ++ []) [] M) _ 0 _ _ (by rw [rng_len]; decide) ⟨⟨[], rfl, rfl, by simp⟩, hM⟩ ?_ ?_
    · rintro j a acc M hj ⟨⟨Rs, rfl, hRl, hRs⟩, hF⟩
      try simp -implicitDefEqProofs only [w_enumT, v_enumC, v_enumT, v_seqC, v_lenC, v_listC, v_listRL, w_keys, List.map_cons, List.map_nil, List.cons_append, List.nil_append, List.replicate, List.set_cons_succ, List.set_cons_zero, wipeG, wpS_then, wpS_set, wpS_if, wpS_mret, wpS_retN, wpS_mnext, wpS_mbrk, wpS_mcnt, wpS_exp, wpS_asg, wpS_for, w_c, w_bin, w_un, w_ifE, w_andV, w_orV, w_notV, w_call, w_chain, w_meth, w_meth0, w_sl, w_noPart, w_part, w_nil, w_cons, w_bl, w_tru, w_and, w_or, w_not, w_lcV, w_lcR, w_lc, w_seq, w_rng1, w_rng2, w_var0, w_var1, w_var2, w_var3, w_var4, w_var5, w_var6, w_var7, w_var8, w_var9, w_var10, w_var11, w_var12, w_var13, w_var14, w_var15, w_var16, w_var17, w_var18, w_var19, w_var20, w_dictT, w_dictK, w_gTp, wpS_par, wpS_par3, w_zip, w_enum, w_rev, v_zipL, v_zipT, v_enumL, v_revL, v_revT, w_gsCons, w_gsNil, w_callK, wpR_ok, wpR_sized, v_nm, v_addI, v_addS, v_addT, v_addL, v_sub, v_neg, w_mul, w_div, w_mod, w_pow, v_ordI, v_eqI, v_neI, v_eqS, v_neS, v_lenS, v_lenL, v_lenF, v_lenT, v_truB, v_seqS, v_seqT, v_seqL, v_seqF, v_listT, v_listL, v_tupleL, v_tupleT, v_tupD, v_lstD, v_lstR, v_slT, v_slL, v_slF, w_slS, defD_rt, defD_nx, defD_ex, defD_bk, defD_ct, AV.bl.injEq, AV.int.injEq, Option.some.injEq, exists_eq_left', tyS, if_true, if_false, Bool.false_eq_true, true_and, and_true, e_road]
      refine d_road hF hw hl hnd (fun n => mem_allN) fun R M' hR h' => ⟨⟨Rs ++ [R], by simp, by simp; omega, fun x hx => ?_⟩, h'⟩
      rcases List.mem_append.mp hx with z | z
      · exact hRs x z
      · rw [List.mem_singleton.mp z]
        exact hR
    · rintro acc M' ⟨⟨Rs, rfl, hRl, hRs⟩, hF⟩
      rw [rng_len] at hRl
      exact ⟨Rs, by simpa using hRl, hRs, rfl, hF⟩
  rintro _ M ⟨Rs, hRl, hRs, rfl, hM⟩
  have hRok : ∀ R ∈ Rs, Sh 2 8263 (roA R) := fun R hR => by
    have hr := hRs R hR
    exact (sh_names (fun n hn => hw.names n ((hr.2.1 n).mp hn)) (by rw [hr.len hw]; exact hl)).tuc
  have hrep : ∀ M, gRepr [.tup [ledA w (allN w), .lst (Rs.map roA)]] M = .ok (.str (shw (.tup [ledA w (allN w), .lst (Rs.map roA)]))) M := fun M => by
    refine v_repr (d := 5) (n := 1322613) ((sh_tup (d := 4) (n := 661303) fun a ha => ?_).mono (by decide) (by simp)) (by decide) (by decide)
    simp only [List.mem_cons, List.not_mem_nil, or_false] at ha
    rcases ha with rfl | rfl
    · exact sh_led hw hl (fun n hn => mem_allN.mp hn) (by omega)
    · refine (sh_lst (d := 2) (n := 8263) fun a ha => ?_).mono (by decide) (by rw [List.length_map, hRl]; decide)
      obtain ⟨R, hR, rfl⟩ := List.mem_map.mp ha
      exact hRok R hR
  refine wp_seq (fun G M => G = [some (.fro (ns.map .int)), some (.ref 0), some (.lst (ws.map .str)), some (.ref 5), some (.lst ((allN w).map nameA)), some (ledA w (allN w)), some (.lst (Rs.map roA)), some (.str (shw (.tup [ledA w (allN w), .lst (Rs.map roA)]))), none, none, none, none] ∧ Fs (wrest w l h ++ []) [] M) ?_ ?_
  · try simp -implicitDefEqProofs only [w_enumT, v_enumC, v_enumT, v_seqC, v_lenC, v_listC, v_listRL, w_keys, List.map_cons, List.map_nil, List.cons_append, List.nil_append, List.replicate, List.set_cons_succ, List.set_cons_zero, wipeG, wpS_then, wpS_set, wpS_if, wpS_mret, wpS_retN, wpS_mnext, wpS_mbrk, wpS_mcnt, wpS_exp, wpS_asg, wpS_for, w_c, w_bin, w_un, w_ifE, w_andV, w_orV, w_notV, w_call, w_chain, w_meth, w_meth0, w_sl, w_noPart, w_part, w_nil, w_cons, w_bl, w_tru, w_and, w_or, w_not, w_lcV, w_lcR, w_lc, w_seq, w_rng1, w_rng2, w_var0, w_var1, w_var2, w_var3, w_var4, w_var5, w_var6, w_var7, w_var8, w_var9, w_var10, w_var11, w_var12, w_var13, w_var14, w_var15, w_var16, w_var17, w_var18, w_var19, w_var20, w_dictT, w_dictK, w_gTp, wpS_par, wpS_par3, w_zip, w_enum, w_rev, v_zipL, v_zipT, v_enumL, v_revL, v_revT, w_gsCons, w_gsNil, w_callK, wpR_ok, wpR_sized, v_nm, v_addI, v_addS, v_addT, v_addL, v_sub, v_neg, w_mul, w_div, w_mod, w_pow, v_ordI, v_eqI, v_neI, v_eqS, v_neS, v_lenS, v_lenL, v_lenF, v_lenT, v_truB, v_seqS, v_seqT, v_seqL, v_seqF, v_listT, v_listL, v_tupleL, v_tupleT, v_tupD, v_lstD, v_lstR, v_slT, v_slL, v_slF, w_slS, defD_rt, defD_nx, defD_ex, defD_bk, defD_ct, AV.bl.injEq, AV.int.injEq, Option.some.injEq, exists_eq_left', tyS, if_true, if_false, Bool.false_eq_true, true_and, and_true, hrep]
    exact ⟨by simp, hM⟩
  rintro _ M ⟨rfl, hM⟩
  have hat : ∀ i : Int, 0 ≤ i → i < 3 → ∃ R ∈ Rs, atI (Rs.map roA) i = some (roA R) := fun i i0 i1 => by
    obtain ⟨v, e, hv⟩ := at_mem (xs := Rs.map roA) i0 (by rw [List.length_map, hRl]; exact i1)
    obtain ⟨R, hR, rfl⟩ := List.mem_map.mp hv
    exact ⟨R, hR, e⟩
  refine wp_seq (fun G M => (∃ g8 g9 g10, G = [some (.fro (ns.map .int)), some (.ref 0), some (.lst (ws.map .str)), some (.ref 5), some (.lst ((allN w).map nameA)), some (ledA w (allN w)), some (.lst (Rs.map roA)), some (.str (shw (.tup [ledA w (allN w), .lst (Rs.map roA)]))), g8, g9, g10, none]) ∧ Fs (wrest w l h ++ []) [] M) ?_ ?_
  · rw [wpS_for]
    try simp -implicitDefEqProofs only [w_enumT, v_enumC, v_enumT, v_seqC, v_lenC, v_listC, v_listRL, w_keys, List.map_cons, List.map_nil, List.cons_append, List.nil_append, List.replicate, List.set_cons_succ, List.set_cons_zero, wipeG, wpS_then, wpS_set, wpS_if, wpS_mret, wpS_retN, wpS_mnext, wpS_mbrk, wpS_mcnt, wpS_exp, wpS_asg, wpS_for, w_c, w_bin, w_un, w_ifE, w_andV, w_orV, w_notV, w_call, w_chain, w_meth, w_meth0, w_sl, w_noPart, w_part, w_nil, w_cons, w_bl, w_tru, w_and, w_or, w_not, w_lcV, w_lcR, w_lc, w_seq, w_rng1, w_rng2, w_var0, w_var1, w_var2, w_var3, w_var4, w_var5, w_var6, w_var7, w_var8, w_var9, w_var10, w_var11, w_var12, w_var13, w_var14, w_var15, w_var16, w_var17, w_var18, w_var19, w_var20, w_dictT, w_dictK, w_gTp, wpS_par, wpS_par3, w_zip, w_enum, w_rev, v_zipL, v_zipT, v_enumL, v_revL, v_revT, w_gsCons, w_gsNil, w_callK, wpR_ok, wpR_sized, v_nm, v_addI, v_addS, v_addT, v_addL, v_sub, v_neg, w_mul, w_div, w_mod, w_pow, v_ordI, v_eqI, v_neI, v_eqS, v_neS, v_lenS, v_lenL, v_lenF, v_lenT, v_truB, v_seqS, v_seqT, v_seqL, v_seqF, v_listT, v_listL, v_tupleL, v_tupleT, v_tupD, v_lstD, v_lstR, v_slT, v_slL, v_slF, w_slS, defD_rt, defD_nx, defD_ex, defD_bk, defD_ct, AV.bl.injEq, AV.int.injEq, Option.some.injEq, exists_eq_left', tyS, if_true, if_false, Bool.false_eq_true, true_and, and_true]
    refine ⟨by simp, by simp, by simp, by simp, by simp, by simp, by simp, by simp, by simp, ?_⟩
    refine wp_loop (fun _ G M => (∃ g8 g9 g10, G = [some (.fro (ns.map .int)), some (.ref 0), some (.lst (ws.map .str)), some (.ref 5), some (.lst ((allN w).map nameA)), some (ledA w (allN w)), some (.lst (Rs.map roA)), some (.str (shw (.tup [ledA w (allN w), .lst (Rs.map roA)]))), g8, g9, g10, none]) ∧ Fs (wrest w l h ++ []) [] M) _ 0 _ _ ⟨⟨_, _, _, rfl⟩, hM⟩ ?_ ?_
    · rintro j a G M hj ⟨⟨g8, g9, g10, rfl⟩, hF⟩
      have ha : ∃ i k : Int, a = .tup [.int i, .int k] ∧ 0 ≤ i ∧ i < 3 ∧ 0 ≤ k ∧ k < 3 := by
        have := List.mem_of_getElem? hj
        simp only [List.mem_cons, List.not_mem_nil, or_false] at this
        rcases this with rfl | rfl | rfl | rfl | rfl | rfl | rfl | rfl <;> exact ⟨_, _, rfl, by decide, by decide, by decide, by decide⟩
      obtain ⟨i, k, rfl, i0, i1, k0, k1⟩ := ha
      obtain ⟨A, hA, eA⟩ := hat i i0 i1
      obtain ⟨B, hB, eB⟩ := hat k k0 k1
      have rA := hRs A hA
      have rB := hRs B hB
      try simp -implicitDefEqProofs only [w_enumT, v_enumC, v_enumT, v_seqC, v_lenC, v_listC, v_listRL, w_keys, List.map_cons, List.map_nil, List.cons_append, List.nil_append, List.replicate, List.set_cons_succ, List.set_cons_zero, wipeG, wpS_then, wpS_set, wpS_if, wpS_mret, wpS_retN, wpS_mnext, wpS_mbrk, wpS_mcnt, wpS_exp, wpS_asg, wpS_for, w_c, w_bin, w_un, w_ifE, w_andV, w_orV, w_notV, w_call, w_chain, w_meth, w_meth0, w_sl, w_noPart, w_part, w_nil, w_cons, w_bl, w_tru, w_and, w_or, w_not, w_lcV, w_lcR, w_lc, w_seq, w_rng1, w_rng2, w_var0, w_var1, w_var2, w_var3, w_var4, w_var5, w_var6, w_var7, w_var8, w_var9, w_var10, w_var11, w_var12, w_var13, w_var14, w_var15, w_var16, w_var17, w_var18, w_var19, w_var20, w_dictT, w_dictK, w_gTp, wpS_par, wpS_par3, w_zip, w_enum, w_rev, v_zipL, v_zipT, v_enumL, v_revL, v_revT, w_gsCons, w_gsNil, w_callK, wpR_ok, wpR_sized, v_nm, v_addI, v_addS, v_addT, v_addL, v_sub, v_neg, w_mul, w_div, w_mod, w_pow, v_ordI, v_eqI, v_neI, v_eqS, v_neS, v_lenS, v_lenL, v_lenF, v_lenT, v_truB, v_seqS, v_seqT, v_seqL, v_seqF, v_listT, v_listL, v_tupleL, v_tupleT, v_tupD, v_lstD, v_lstR, v_slT, v_slL, v_slF, w_slS, defD_rt, defD_nx, defD_ex, defD_bk, defD_ct, AV.bl.injEq, AV.int.injEq, Option.some.injEq, exists_eq_left', tyS, if_true, if_false, Bool.false_eq_true, true_and, and_true, w_ixL, eA, eB, e_paper]
      refine ⟨rfl, ?_⟩
      refine d_paper hF (.inr rfl) (.inr rfl) (rA.perm rB) rB.1 (by rw [rB.len hw]; exact hl) fun ks M1 hW h1 => ?_
      try simp -implicitDefEqProofs only [w_enumT, v_enumC, v_enumT, v_seqC, v_lenC, v_listC, v_listRL, w_keys, List.map_cons, List.map_nil, List.cons_append, List.nil_append, List.replicate, List.set_cons_succ, List.set_cons_zero, wipeG, wpS_then, wpS_set, wpS_if, wpS_mret, wpS_retN, wpS_mnext, wpS_mbrk, wpS_mcnt, wpS_exp, wpS_asg, wpS_for, w_c, w_bin, w_un, w_ifE, w_andV, w_orV, w_notV, w_call, w_chain, w_meth, w_meth0, w_sl, w_noPart, w_part, w_nil, w_cons, w_bl, w_tru, w_and, w_or, w_not, w_lcV, w_lcR, w_lc, w_seq, w_rng1, w_rng2, w_var0, w_var1, w_var2, w_var3, w_var4, w_var5, w_var6, w_var7, w_var8, w_var9, w_var10, w_var11, w_var12, w_var13, w_var14, w_var15, w_var16, w_var17, w_var18, w_var19, w_var20, w_dictT, w_dictK, w_gTp, wpS_par, wpS_par3, w_zip, w_enum, w_rev, v_zipL, v_zipT, v_enumL, v_revL, v_revT, w_gsCons, w_gsNil, w_callK, wpR_ok, wpR_sized, v_nm, v_addI, v_addS, v_addT, v_addL, v_sub, v_neg, w_mul, w_div, w_mod, w_pow, v_ordI, v_eqI, v_neI, v_eqS, v_neS, v_lenS, v_lenL, v_lenF, v_lenT, v_truB, v_seqS, v_seqT, v_seqL, v_seqF, v_listT, v_listL, v_tupleL, v_tupleT, v_tupD, v_lstD, v_lstR, v_slT, v_slL, v_slF, w_slS, defD_rt, defD_nx, defD_ex, defD_bk, defD_ct, AV.bl.injEq, AV.int.injEq, Option.some.injEq, exists_eq_left', tyS, if_true, if_false, Bool.false_eq_true, true_and, and_true, w_ixL, eA, eB]
      refine d_right h1 hw hl rA rB hW fun M2 h2 => ?_
      try simp -implicitDefEqProofs only [w_enumT, v_enumC, v_enumT, v_seqC, v_lenC, v_listC, v_listRL, w_keys, List.map_cons, List.map_nil, List.cons_append, List.nil_append, List.replicate, List.set_cons_succ, List.set_cons_zero, wipeG, wpS_then, wpS_set, wpS_if, wpS_mret, wpS_retN, wpS_mnext, wpS_mbrk, wpS_mcnt, wpS_exp, wpS_asg, wpS_for, w_c, w_bin, w_un, w_ifE, w_andV, w_orV, w_notV, w_call, w_chain, w_meth, w_meth0, w_sl, w_noPart, w_part, w_nil, w_cons, w_bl, w_tru, w_and, w_or, w_not, w_lcV, w_lcR, w_lc, w_seq, w_rng1, w_rng2, w_var0, w_var1, w_var2, w_var3, w_var4, w_var5, w_var6, w_var7, w_var8, w_var9, w_var10, w_var11, w_var12, w_var13, w_var14, w_var15, w_var16, w_var17, w_var18, w_var19, w_var20, w_dictT, w_dictK, w_gTp, wpS_par, wpS_par3, w_zip, w_enum, w_rev, v_zipL, v_zipT, v_enumL, v_revL, v_revT, w_gsCons, w_gsNil, w_callK, wpR_ok, wpR_sized, v_nm, v_addI, v_addS, v_addT, v_addL, v_sub, v_neg, w_mul, w_div, w_mod, w_pow, v_ordI, v_eqI, v_neI, v_eqS, v_neS, v_lenS, v_lenL, v_lenF, v_lenT, v_truB, v_seqS, v_seqT, v_seqL, v_seqF, v_listT, v_listL, v_tupleL, v_tupleT, v_tupD, v_lstD, v_lstR, v_slT, v_slL, v_slF, w_slS, defD_rt, defD_nx, defD_ex, defD_bk, defD_ct, AV.bl.injEq, AV.int.injEq, Option.some.injEq, exists_eq_left', tyS, if_true, if_false, Bool.false_eq_true, true_and, and_true, Bool.not_true, Bool.false_eq_true, if_false]
      exact ⟨⟨_, _, _, rfl⟩, h2⟩
    · rintro G M ⟨hG, hF⟩
      exact ⟨hG, hF⟩
  rintro _ M ⟨⟨g8, g9, g10, rfl⟩, hM⟩
  try simp -implicitDefEqProofs only [w_enumT, v_enumC, v_enumT, v_seqC, v_lenC, v_listC, v_listRL, w_keys, List.map_cons, List.map_nil, List.cons_append, List.nil_append, List.replicate, List.set_cons_succ, List.set_cons_zero, wipeG, wpS_then, wpS_set, wpS_if, wpS_mret, wpS_retN, wpS_mnext, wpS_mbrk, wpS_mcnt, wpS_exp, wpS_asg, wpS_for, w_c, w_bin, w_un, w_ifE, w_andV, w_orV, w_notV, w_call, w_chain, w_meth, w_meth0, w_sl, w_noPart, w_part, w_nil, w_cons, w_bl, w_tru, w_and, w_or, w_not, w_lcV, w_lcR, w_lc, w_seq, w_rng1, w_rng2, w_var0, w_var1, w_var2, w_var3, w_var4, w_var5, w_var6, w_var7, w_var8, w_var9, w_var10, w_var11, w_var12, w_var13, w_var14, w_var15, w_var16, w_var17, w_var18, w_var19, w_var20, w_dictT, w_dictK, w_gTp, wpS_par, wpS_par3, w_zip, w_enum, w_rev, v_zipL, v_zipT, v_enumL, v_revL, v_revT, w_gsCons, w_gsNil, w_callK, wpR_ok, wpR_sized, v_nm, v_addI, v_addS, v_addT, v_addL, v_sub, v_neg, w_mul, w_div, w_mod, w_pow, v_ordI, v_eqI, v_neI, v_eqS, v_neS, v_lenS, v_lenL, v_lenF, v_lenT, v_truB, v_seqS, v_seqT, v_seqL, v_seqF, v_listT, v_listL, v_tupleL, v_tupleT, v_tupD, v_lstD, v_lstR, v_slT, v_slL, v_slF, w_slS, defD_rt, defD_nx, defD_ex, defD_bk, defD_ct, AV.bl.injEq, AV.int.injEq, Option.some.injEq, exists_eq_left', tyS, if_true, if_false, Bool.false_eq_true, true_and, and_true, hrep]
  simp
end K13

open PySem PySem.W PyProof.Rows
set_option maxRecDepth 100000 in
set_option maxHeartbeats 0 in
theorem PySem.Challenge.cw_marginwords_k13_exchanges_told_holds : PySem.Challenge.rw_marginwords_k13_exchanges_told.Holds := by
  w_on; o_law; k_head; (case hw => w_witness2)
  k_fill
  refine Mx.walk_mx (l := PySem.Challenge.rw_marginwords_k13_exchanges_told) (k := 5) (x := "_law_script") (m := K13.m_law) rfl rfl ⟨rfl, by decide, by decide⟩ (fun w h Y => PySem.W.kIn_of Y) K13.law_ok ?F
  case F =>
    intro w mg fa h KX G hmg
    refine' K13.all_mk KX G hmg ?a0 ?l0 ?c0 ?k0 ?a1 ?l1 ?c1 ?k1 ?a2 ?l2 ?c2 ?k2 ?a3 ?l3 ?c3 ?k3 ?a4 ?l4 ?c4 ?k4 ?a5 ?l5 ?c5 ?k5 ?a6 ?l6 ?c6 ?k6 ?a7 ?l7 ?c7 ?k7 ?a8 ?l8 ?c8 ?k8 ?a9 ?l9 ?c9 ?k9 ?a10 ?l10 ?c10 ?k10 ?a11 ?l11 ?c11 ?k11 ?a12 ?l12 ?c12 ?k12 ?a13 ?l13 ?c13 ?k13 ?z_bool ?z_enumerate ?z_int ?z_isinstance ?z_len ?z_list ?z_max ?z_range ?z_repr ?z_sorted ?z_tuple
    (case a0 => k_is)
    (case l0 => k_is)
    (case c0 => k_is)
    (case k0 => k_is)
    (case a1 => k_is)
    (case l1 => k_is)
    (case c1 => k_is)
    (case k1 => k_is)
    (case a2 => k_is)
    (case l2 => k_is)
    (case c2 => k_is)
    (case k2 => k_is)
    (case a3 => k_is)
    (case l3 => k_is)
    (case c3 => k_is)
    (case k3 => k_is)
    (case a4 => k_is)
    (case l4 => k_is)
    (case c4 => k_is)
    (case k4 => k_is)
    (case a5 => k_is)
    (case l5 => k_is)
    (case c5 => k_is)
    (case k5 => k_is)
    (case a6 => k_is)
    (case l6 => k_is)
    (case c6 => k_is)
    (case k6 => k_is)
    (case a7 => k_is)
    (case l7 => k_is)
    (case c7 => k_is)
    (case k7 => k_is)
    (case a8 => k_is)
    (case l8 => k_is)
    (case c8 => k_is)
    (case k8 => k_is)
    (case a9 => k_is)
    (case l9 => k_is)
    (case c9 => k_is)
    (case k9 => k_is)
    (case a10 => k_is)
    (case l10 => k_is)
    (case c10 => k_is)
    (case k10 => k_is)
    (case a11 => k_is)
    (case l11 => k_is)
    (case c11 => k_is)
    (case k11 => k_is)
    (case a12 => k_is)
    (case l12 => k_is)
    (case c12 => k_is)
    (case k12 => k_is)
    (case a13 => k_is)
    (case l13 => k_is)
    (case c13 => k_is)
    (case k13 => k_is)
    (case z_bool => k_is)
    (case z_enumerate => k_is)
    (case z_int => k_is)
    (case z_isinstance => k_is)
    (case z_len => k_is)
    (case z_list => k_is)
    (case z_max => k_is)
    (case z_range => k_is)
    (case z_repr => k_is)
    (case z_sorted => k_is)
    (case z_tuple => k_is)
