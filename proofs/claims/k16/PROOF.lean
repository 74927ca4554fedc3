import PyProof.Rows.All
import Wide.All
import OpenK.AllK
import Wide.FinOn
import HandS.ForMost
import HandS.ForExc
import HandS.CallSlots
import HandS.Lambda
import HandS.TupAny
import HandS.TupLen
import HandS.IsInst
import HandS.Wide
import HandS.Small
import HandS.Text
import HandS.TupLe
import HandS.Style
import PyProof.Rows.TupMore
import PyProof.ReprRoads
import PyProof.CallFns
import HandS.RaiseMore
import HandS.More
import HandS.Words
import KE.SortData
import KE.DataCmp
import KE.DataMinMax
import HandS.Conv
import HandS.SortKw
import HandS.Zip
import HandS.Rev
import KE.DataFind
import HandS.Strs
import PyProof.Draws
import HandS.ExcInit
import HandS.ExcField
import KE.KExcIs
import HandS.ExcIs
import HandS.TupSets
import KE.KDictWalk
import HandS.Sort
import KE.GoesNewDict
import PyProof.AutoSeq1
import KE.KDictCopyH
import KE.GoesMore
import KE.GoesNew
import HandS.DictTup
import PyProof.DictMoreH
import HandS.EndTab
import KE.SortKeyHeap
import KE.KSortKey
import KE.KNest
import PyProof.StrLawsRepr
import PyProof.ReprText
import PyProof.ReprLen
import PySem.Challenge.RW_marginwords_k16_refusals_apart
set_option Elab.async false
set_option linter.all false
set_option maxRecDepth 100000
set_option maxHeartbeats 0
namespace Mx
open PySem L2
inductive AV where
  | non | bl (b : Bool) | int (i : Int) | str (x : Str)
  | tup (xs : List AV) | lst (xs : List AV) | fro (xs : List AV) | tuc (xs : List AV)
  | dK (kvs : List (Key × AV)) | dT (kvs : List (List Key × AV))
  | ref (n : Nat)
structure AH where
  objs : List AV
  fz : List Nat
inductive Res (α : Type) where
  | ok (a : α) (M : AH)
  | exc (c : Str) (fs : List (Str × AV)) (M : AH)
  | stuck
def Res.bind {α β : Type} (r : Res α) (f : α → AH → Res β) : Res β := match r with
  | .ok a M => f a M
  | .exc c fs M => .exc c fs M
  | .stuck => .stuck
@[simp] theorem Res.bind_ok {α β : Type} (a : α) (M : AH) (f : α → AH → Res β) : (Res.ok a M).bind f = f a M := rfl
@[simp] theorem Res.bind_exc {α β : Type} (c : Str) (fs : List (Str × AV)) (M : AH) (f : α → AH → Res β) : (Res.exc c fs M : Res α).bind f = .exc c fs M := rfl
@[simp] theorem Res.bind_stuck {α β : Type} (f : α → AH → Res β) : (Res.stuck : Res α).bind f = .stuck := rfl
structure Ix where
  num : List Addr
  prv : List Addr
  tab : List (Addr × Str)
instance : Membership Addr Ix := ⟨fun i a => a ∈ i.num ∨ a ∈ i.prv⟩
def KT (K : PySem.W.Frag) (a : Addr) (xs : List V) : Prop :=
  ∃ (o : Obj) (its : Array Value) (n : Nat), K.lookup a = some o ∧ o.cls = .type "tuple" ∧ o.data = .seq its n ∧ its.size ≤ sizeLine ∧ Vals xs its.toList ∧ o.dict = none
def Kn (K : PySem.W.Frag) (i : Ix) (H : Hp) (a : Addr) (xs : List V) : Prop := ((∃ o : Obj, H a = some (.frz o (.tup xs)) ∧ o.dict = none) ∧ a ∉ i) ∨ KT K a xs
def KL (K : PySem.W.Frag) (a : Addr) (xs : List V) : Prop :=
  ∃ (o : Obj) (its : Array Value) (n : Nat), K.lookup a = some o ∧ o.cls = .type "list" ∧ o.dict = none ∧ o.data = .seq its n ∧ its.size ≤ sizeLine ∧ Vals xs its.toList
mutual
inductive VR (K : PySem.W.Frag) (i : Ix) (H : Hp) : V → AV → Prop
  | non : VR K i H .non .non
  | bl (b : Bool) : VR K i H (.bl b) (.bl b)
  | int (k : Int) : VR K i H (.int k) (.int k)
  | str (x : Str) : VR K i H (.str x) (.str x)
  | tup {a : Addr} {xs : List V} {as : List AV} : H a = some (.tup xs) → a ∉ i → VRs K i H xs as → VR K i H (.ref a) (.tup as)
  | lst {a : Addr} {xs : List V} {as : List AV} : H a = some (.lst xs) → a ∉ i → VRs K i H xs as → VR K i H (.ref a) (.lst as)
  | fro {a : Addr} {xs : List V} {as : List AV} : (Rd H a (.lst xs) ∧ a ∉ i) ∨ KL K a xs → VRs K i H xs as → VR K i H (.ref a) (.fro as)
  | tuc {a : Addr} {xs : List V} {as : List AV} : Kn K i H a xs → VRs K i H xs as → VR K i H (.ref a) (.tuc as)
  | ref {a : Addr} {n : Nat} : i.num[n]? = some a → VR K i H (.ref a) (.ref n)
inductive VRs (K : PySem.W.Frag) (i : Ix) (H : Hp) : List V → List AV → Prop
  | nil : VRs K i H [] []
  | cons {v : V} {a : AV} {vs : List V} {as : List AV} : VR K i H v a → VRs K i H vs as → VRs K i H (v :: vs) (a :: as)
inductive VRk (K : PySem.W.Frag) (i : Ix) (H : Hp) : List (Key × V) → List (Key × AV) → Prop
  | nil : VRk K i H [] []
  | cons {k : Key} {v : V} {a : AV} {us : List (Key × V)} {as : List (Key × AV)} : VR K i H v a → VRk K i H us as → VRk K i H ((k, v) :: us) ((k, a) :: as)
inductive VRt (K : PySem.W.Frag) (i : Ix) (H : Hp) : List (List Key × V) → List (List Key × AV) → Prop
  | nil : VRt K i H [] []
  | cons {k : List Key} {v : V} {a : AV} {us : List (List Key × V)} {as : List (List Key × AV)} : VR K i H v a → VRt K i H us as → VRt K i H ((k, v) :: us) ((k, a) :: as)
end
structure Ext (i j : Ix) (H H' : Hp) : Prop where
  app : ∃ l, j.num = i.num ++ l
  prv : ∀ a, a ∈ i.prv → a ∈ j.prv
  hid : ∀ a, a ∈ j.prv → a ∉ i → H a = none
  new : ∀ a, a ∈ j.num → a ∉ i.num → H a = none
  keep : ∀ a u, (∀ ps, u ≠ .tbl ps) → a ∉ i.num → H a = some u → H' a = some u
  fro : ∀ a o u, H a = some (.frz o u) → H' a = some (.frz o u)
  tbe : j.tab = i.tab
  tbk : LamX.Tabs i.tab H → LamX.Tabs i.tab H'
  tbg : ∀ a ps, a ∉ i.num → H a = some (.tbl ps) → H' a ≠ none
def NoTb (u : HO) : Prop := (∀ ps, u ≠ .tbl ps) ∧ ∀ φ, u ≠ .ext φ
theorem tabs_upd {T : List (Addr × Str)} {H : Hp} {p : Addr} {o : HO} (h : ∀ u, H p = some u → NoTb u) (t : LamX.Tabs T H) : LamX.Tabs T (upd H p o) := fun q hq => by
  obtain ⟨ps, h1, h2, h3⟩ := t q hq
  have n1 : q.1 ≠ p := fun z => (h _ (by rw [← z]; exact h1)).1 ps rfl
  refine ⟨ps, by rw [upd_ne n1]; exact h1, h2, fun pos cv hc => ?_⟩
  obtain ⟨c, e1, e2⟩ := h3 pos cv hc
  have n2 : c ≠ p := fun z => (h _ (by rw [← z]; exact e2)).2 _ rfl
  exact ⟨c, e1, by rw [upd_ne n2]; exact e2⟩
theorem rd_some {H : Hp} {a : Addr} {u : HO} (h : Rd H a u) : H a ≠ none := by
  rcases h with h | ⟨o, h⟩ <;> rw [h] <;> intro z <;> cases z
theorem ne_no {H : Hp} {a : Addr} {u : HO} (h : H a = some u) : H a ≠ none := by rw [h]; intro z; cases z
theorem Ext.refl {i : Ix} {H : Hp} : Ext i i H H := ⟨⟨[], by simp⟩, fun _ h => h, fun a h n => absurd (Or.inr h) n, fun a h n => absurd h n, fun _ _ _ _ h => h, fun _ _ _ h => h, rfl, fun h => h, fun _ _ _ h => ne_no h⟩
theorem Ext.notnum {i j : Ix} {H H' : Hp} (e : Ext i j H H') {a : Addr} (hn : a ∉ i.num) (h : H a ≠ none) : a ∉ j.num := fun z => h (e.new a z hn)
theorem Ext.notin {i j : Ix} {H H' : Hp} (e : Ext i j H H') {a : Addr} (hn : a ∉ i) (h : H a ≠ none) : a ∉ j := fun z => by
  rcases z with z | z
  · exact e.notnum (fun q => hn (.inl q)) h z
  · exact h (e.hid a z hn)
theorem Ext.rd {i j : Ix} {H H' : Hp} (e : Ext i j H H') {a : Addr} {u : HO} (hn : a ∉ i) (h : Rd H a u) (hu : ∀ ps, u ≠ .tbl ps := by intro _ z; cases z) : Rd H' a u := by
  have hn' : a ∉ i.num := fun z => hn (.inl z)
  rcases h with h | ⟨o, h⟩
  · exact .inl (e.keep _ _ hu hn' h)
  · exact .inr ⟨o, e.keep _ _ (fun _ z => by cases z) hn' h⟩
theorem Ext.same {i j : Ix} {H H' : Hp} (e : Ext i j H H') {a : Addr} {u : HO} (hn : a ∉ i) (h : H a = some u) (hu : ∀ ps, u ≠ .tbl ps := by intro _ z; cases z) : H' a = some u := e.keep _ _ hu (fun z => hn (.inl z)) h
theorem Ext.free {i j : Ix} {H H' : Hp} (e : Ext i j H H') {a : Addr} (hn : a ∉ i.num) (h : H' a = none) : H a = none := by
  cases q : H a with
  | none => rfl
  | some u =>
    by_cases hu : ∀ ps, u ≠ .tbl ps
    · rw [e.keep a u hu hn q] at h
      cases h
    · obtain ⟨ps, z⟩ := Classical.not_forall.mp hu
      have z := Classical.not_not.mp z
      subst z
      exact absurd h (e.tbg a ps hn q)
theorem Ext.sub {i j : Ix} {H H' : Hp} (e : Ext i j H H') {a : Addr} (h : a ∈ i.num) : a ∈ j.num := by
  obtain ⟨l, q⟩ := e.app
  rw [q]
  exact List.mem_append_left _ h
theorem Ext.trans {i j k : Ix} {H H1 H2 : Hp} (a : Ext i j H H1) (b : Ext j k H1 H2) : Ext i k H H2 where
  app := by
    obtain ⟨l, q⟩ := a.app
    obtain ⟨m, r⟩ := b.app
    exact ⟨l ++ m, by rw [r, q, List.append_assoc]⟩
  prv := fun x h => b.prv x (a.prv x h)
  hid := fun x hx hn => by
    by_cases hj : x ∈ j
    · rcases hj with hj | hj
      · exact a.new x hj fun z => hn (.inl z)
      · exact a.hid x hj hn
    · exact a.free (fun z => hn (.inl z)) (b.hid x hx hj)
  new := fun x hx hn => by
    by_cases hj : x ∈ j.num
    · exact a.new x hj hn
    · exact a.free hn (b.new x hx hj)
  keep := fun x u hu hn h => b.keep x u hu (a.notnum hn (ne_no h)) (a.keep x u hu hn h)
  fro := fun x o u h => b.fro x o u (a.fro x o u h)
  tbe := b.tbe.trans a.tbe
  tbk := fun h => by
    have h1 := a.tbk h
    rw [← a.tbe] at h1 ⊢
    exact b.tbk h1
  tbg := fun x ps hn h z => a.tbg x ps hn h (b.free (a.notnum hn (ne_no h)) z)
theorem Ext.get {i j : Ix} {H H' : Hp} (e : Ext i j H H') {n : Nat} {a : Addr} (h : i.num[n]? = some a) : j.num[n]? = some a := by
  obtain ⟨l, q⟩ := e.app
  have hl : n < i.num.length := (List.getElem?_eq_some_iff.mp h).1
  rw [q, List.getElem?_append_left hl]
  exact h
theorem Ext.one {i j : Ix} {H : Hp} {p : Addr} {o : HO} (h : H p = none ∨ p ∈ i.num) (ha : ∃ l, j.num = i.num ++ l) (hp : j.prv = i.prv) (hn : ∀ a, a ∈ j.num → a ∉ i.num → H a = none) (hf : ∀ o u, H p ≠ some (.frz o u)) (ht : j.tab = i.tab) (hq : ∀ u, H p = some u → NoTb u) : Ext i j H (upd H p o) := by
  refine ⟨ha, fun a h => by rw [hp]; exact h, fun a h n => absurd (Or.inr (hp ▸ h)) n, hn, fun a u _ hi hs => ?_, fun a o u hs => by
    have ne : a ≠ p := fun z => hf o u (z ▸ hs)
    rw [upd_ne ne]
    exact hs, ht, tabs_upd hq, fun a ps hi hs => by
      by_cases z : a = p
      · rw [z, upd_same]; intro q; cases q
      · rw [upd_ne z]; exact ne_no hs⟩
  have ne : a ≠ p := fun z => by
    subst z
    rcases h with h | h
    · exact ne_no hs h
    · exact hi h
  rw [upd_ne ne]
  exact hs
theorem Ext.fresh {i : Ix} {H : Hp} {p : Addr} {o : HO} (h : H p = none) : Ext i i H (upd H p o) := Ext.one (.inl h) ⟨[], by simp⟩ rfl (fun a h n => absurd h n) (fun _ _ z => by rw [h] at z; cases z) rfl (fun u z => by rw [h] at z; cases z)
theorem Ext.mut {i : Ix} {H : Hp} {a : Addr} {o : HO} (h : a ∈ i.num) (hf : ∀ o u, H a ≠ some (.frz o u)) (hq : ∀ u, H a = some u → NoTb u) : Ext i i H (upd H a o) := Ext.one (.inr h) ⟨[], by simp⟩ rfl (fun a h n => absurd h n) hf rfl hq
def Ix.push (i : Ix) (p : Addr) : Ix := ⟨i.num ++ [p], i.prv, i.tab⟩
theorem Ext.push {i : Ix} {H : Hp} {p : Addr} {o : HO} (h : H p = none) : Ext i (i.push p) H (upd H p o) := Ext.one (.inl h) ⟨[p], rfl⟩ rfl (fun a ha hn => by
  rcases List.mem_append.mp ha with z | z
  · exact absurd z hn
  · rw [List.mem_singleton.mp z]
    exact h) (fun _ _ z => by rw [h] at z; cases z) rfl (fun u z => by rw [h] at z; cases z)
def Ix.hide (i : Ix) (p : Addr) : Ix := ⟨i.num, p :: i.prv, i.tab⟩
theorem Ix.hide_not {i : Ix} {p a : Addr} (h : a ∉ i) (ne : a ≠ p) : a ∉ i.hide p := fun z => by
  rcases z with z | z
  · exact h (.inl z)
  · rcases List.mem_cons.mp z with z | z
    · exact ne z
    · exact h (.inr z)
theorem Kn.mono {K : PySem.W.Frag} {i j : Ix} {H H' : Hp} (e : Ext i j H H') {a : Addr} {xs : List V} (h : Kn K i H a xs) : Kn K j H' a xs := by
  rcases h with ⟨⟨o, h, d⟩, hn⟩ | h
  · exact .inl ⟨⟨o, e.same hn h, d⟩, e.notin hn (ne_no h)⟩
  · exact .inr h
theorem Kn.sq {K : PySem.W.Frag} {i : Ix} {H : Hp} {a : Addr} {xs : List V} (h : Kn K i H a xs) : SqT K H a xs := by
  rcases h with ⟨⟨o, h, d⟩, hn⟩ | ⟨o, its, n, h1, h2, h3, h4, h5, _⟩
  · exact .inl (.inr ⟨o, h⟩)
  · exact .inr ⟨o, its, n, h1, h2, h3, h4, h5⟩
section
variable {K : PySem.W.Frag} {i j : Ix} {H H' : Hp}
mutual
theorem VR.mono (e : Ext i j H H') : ∀ (x : AV) (v : V), VR K i H v x → VR K j H' v x
  | .non, _, h => by cases h; exact .non
  | .bl b, _, h => by cases h; exact .bl b
  | .int k, _, h => by cases h; exact .int k
  | .str x, _, h => by cases h; exact .str x
  | .tup as, _, h => by
    cases h with
    | tup h1 hn h2 => exact .tup (e.same hn h1) (e.notin hn (ne_no h1)) (VRs.mono e as _ h2)
  | .lst as, _, h => by
    cases h with
    | lst h1 hn h2 => exact .lst (e.same hn h1) (e.notin hn (ne_no h1)) (VRs.mono e as _ h2)
  | .fro as, _, h => by
    cases h with
    | fro h1 h2 =>
      refine .fro ?_ (VRs.mono e as _ h2)
      rcases h1 with ⟨h1, hn⟩ | h1
      · exact .inl ⟨e.rd hn h1, e.notin hn (rd_some h1)⟩
      · exact .inr h1
  | .tuc as, _, h => by
    cases h with
    | tuc h1 h2 => exact .tuc (h1.mono e) (VRs.mono e as _ h2)
  | .dK as, _, h => by cases h
  | .dT as, _, h => by cases h
  | .ref n, _, h => by
    cases h with
    | ref h1 => exact .ref (e.get h1)
theorem VRs.mono (e : Ext i j H H') : ∀ (as : List AV) (vs : List V), VRs K i H vs as → VRs K j H' vs as
  | [], _, h => by cases h; exact .nil
  | a :: as, _, h => by
    cases h with
    | cons h1 h2 => exact .cons (VR.mono e a _ h1) (VRs.mono e as _ h2)
theorem VRk.mono (e : Ext i j H H') : ∀ (as : List (Key × AV)) (us : List (Key × V)), VRk K i H us as → VRk K j H' us as
  | [], _, h => by cases h; exact .nil
  | (k, a) :: as, _, h => by
    cases h with
    | cons h1 h2 => exact .cons (VR.mono e a _ h1) (VRk.mono e as _ h2)
theorem VRt.mono (e : Ext i j H H') : ∀ (as : List (List Key × AV)) (us : List (List Key × V)), VRt K i H us as → VRt K j H' us as
  | [], _, h => by cases h; exact .nil
  | (k, a) :: as, _, h => by
    cases h with
    | cons h1 h2 => exact .cons (VR.mono e a _ h1) (VRt.mono e as _ h2)
end
end
section
variable {K : PySem.W.Frag} {i j : Ix} {H H' : Hp}
structure Carry (i j : Ix) (H H' : Hp) : Prop where
  num : ∀ (n : Nat) (a : Addr), i.num[n]? = some a → j.num[n]? = some a
  same : ∀ a u, a ∉ i → H a = some u → H' a = some u ∧ a ∉ j
mutual
theorem VR.carry (e : Carry i j H H') : ∀ (x : AV) (v : V), VR K i H v x → VR K j H' v x
  | .non, _, h => by cases h; exact .non
  | .bl b, _, h => by cases h; exact .bl b
  | .int k, _, h => by cases h; exact .int k
  | .str x, _, h => by cases h; exact .str x
  | .tup as, _, h => by
    cases h with
    | tup h1 hn h2 => exact .tup (e.same _ _ hn h1).1 (e.same _ _ hn h1).2 (VRs.carry e as _ h2)
  | .lst as, _, h => by
    cases h with
    | lst h1 hn h2 => exact .lst (e.same _ _ hn h1).1 (e.same _ _ hn h1).2 (VRs.carry e as _ h2)
  | .fro as, _, h => by
    cases h with
    | fro h1 h2 =>
      refine .fro ?_ (VRs.carry e as _ h2)
      rcases h1 with ⟨h1 | ⟨o, h1⟩, hn⟩ | h1
      · exact .inl ⟨.inl (e.same _ _ hn h1).1, (e.same _ _ hn h1).2⟩
      · exact .inl ⟨.inr ⟨o, (e.same _ _ hn h1).1⟩, (e.same _ _ hn h1).2⟩
      · exact .inr h1
  | .tuc as, _, h => by
    cases h with
    | tuc h1 h2 =>
      refine .tuc ?_ (VRs.carry e as _ h2)
      rcases h1 with ⟨⟨o, h1, d⟩, hn⟩ | h1
      · exact .inl ⟨⟨o, (e.same _ _ hn h1).1, d⟩, (e.same _ _ hn h1).2⟩
      · exact .inr h1
  | .dK as, _, h => by cases h
  | .dT as, _, h => by cases h
  | .ref n, _, h => by
    cases h with
    | ref h1 => exact .ref (e.num _ _ h1)
theorem VRs.carry (e : Carry i j H H') : ∀ (as : List AV) (vs : List V), VRs K i H vs as → VRs K j H' vs as
  | [], _, h => by cases h; exact .nil
  | a :: as, _, h => by
    cases h with
    | cons h1 h2 => exact .cons (VR.carry e a _ h1) (VRs.carry e as _ h2)
end
theorem VRk.carry (e : Carry i j H H') : ∀ (as : List (Key × AV)) (us : List (Key × V)), VRk K i H us as → VRk K j H' us as
  | [], _, h => by cases h; exact .nil
  | (k, a) :: as, _, h => by
    cases h with
    | cons h1 h2 => exact .cons (VR.carry e a _ h1) (VRk.carry e as _ h2)
theorem VRt.carry (e : Carry i j H H') : ∀ (as : List (List Key × AV)) (us : List (List Key × V)), VRt K i H us as → VRt K j H' us as
  | [], _, h => by cases h; exact .nil
  | (k, a) :: as, _, h => by
    cases h with
    | cons h1 h2 => exact .cons (VR.carry e a _ h1) (VRt.carry e as _ h2)
theorem Carry.hide {p : Addr} {o : HO} (h : H p = none) : Carry i (i.hide p) H (upd H p o) := ⟨fun n a e => e, fun a u hn e => by
  have ne : a ≠ p := fun z => by rw [z, h] at e; cases e
  exact ⟨by rw [upd_ne ne]; exact e, Ix.hide_not hn ne⟩⟩
def Ix.show (i : Ix) (p : Addr) : Ix := ⟨i.num, i.prv.filter fun a => decide (a ≠ p), i.tab⟩
theorem Ix.not_show {i : Ix} {p a : Addr} (h : a ∉ i) : a ∉ i.show p := fun z => by
  rcases z with z | z
  · exact h (.inl z)
  · exact h (.inr (List.mem_filter.mp z).1)
theorem Carry.show {p : Addr} : Carry i (i.show p) H H := ⟨fun n a e => e, fun a u hn e => ⟨e, Ix.not_show hn⟩⟩
theorem Carry.mutp {p : Addr} {o : HO} (hp : p ∈ i.prv) : Carry i i H (upd H p o) := ⟨fun n a e => e, fun a u hn e => by
  have ne : a ≠ p := fun z => hn (.inr (z ▸ hp))
  exact ⟨by rw [upd_ne ne]; exact e, hn⟩⟩
theorem Carry.mutn {a : Addr} {o : HO} (h : a ∈ i.num) : Carry i i H (upd H a o) := ⟨fun n b e => e, fun b u hn e => by
  have ne : b ≠ a := fun z => hn (.inl (z ▸ h))
  exact ⟨by rw [upd_ne ne]; exact e, hn⟩⟩
end
end Mx

namespace Mx
open PySem L2
theorem notb_lst (xs : List V) : NoTb (.lst xs) := ⟨(fun _ z => by cases z), (fun _ z => by cases z)⟩
theorem notb_of {H : Hp} {a : Addr} {u : HO} (h : H a = some u) (n : NoTb u) : ∀ v, H a = some v → NoTb v := fun v hv => by rw [h] at hv; cases hv; exact n
theorem notb_none {H : Hp} {a : Addr} (h : H a = none) : ∀ v, H a = some v → NoTb v := fun v hv => by rw [h] at hv; cases hv
theorem tbg_upd {H : Hp} {p a : Addr} {o : HO} (h : H a ≠ none) : upd H p o a ≠ none := by
  by_cases z : a = p
  · rw [z, upd_same]; intro q; cases q
  · rw [upd_ne z]; exact h
inductive OR (K : PySem.W.Frag) (i : Ix) (H : Hp) (a : Addr) (fr : Prop) : AV → Prop
  | lst {vs : List V} {as : List AV} : H a = some (.lst vs) → VRs K i H vs as → OR K i H a fr (.lst as)
  | dK {us : List (Key × V)} {as : List (Key × AV)} : (H a = some (.dK us) ∨ (fr ∧ ∃ o, H a = some (.frz o (.dK us)))) → VRk K i H us as → OR K i H a fr (.dK as)
  | dT {us : List (List Key × V)} {as : List (List Key × AV)} : (H a = some (.dT us) ∨ (fr ∧ ∃ o, H a = some (.frz o (.dT us)))) → VRt K i H us as → OR K i H a fr (.dT as)
structure Sim (K : PySem.W.Frag) (T : List (Addr × Str)) (i : Ix) (M : AH) (H : Hp) : Prop where
  len : i.num.length = M.objs.length
  nd : i.num.Nodup
  sep : ∀ a, a ∈ i.prv → a ∉ i.num ∧ H a ≠ none
  obj : ∀ (n : Nat) (a : Addr) (c : AV), i.num[n]? = some a → M.objs[n]? = some c → OR K i H a (n ∈ M.fz) c
  nt : ∀ a, a ∈ i.prv → ∀ us, H a ≠ some (.tup us)
  fzl : ∀ n, n ∈ M.fz → ∃ a, i.num[n]? = some a ∧ ∃ o u, H a = some (.frz o u)
  tbs : LamX.Tabs i.tab H
  npv : ∀ a, a ∈ i.prv → ∀ u, H a = some u → NoTb u
  ht : i.tab = T
section
variable {K : PySem.W.Frag} {T : List (Addr × Str)} {i j : Ix} {H H' : Hp} {M : AH}
theorem OR.some {a : Addr} {fr : Prop} {c : AV} (h : OR K i H a fr c) : H a ≠ none := by
  cases h with
  | lst h _ => rw [h]; intro z; cases z
  | dK h _ =>
    rcases h with h | ⟨_, o, h⟩ <;> rw [h] <;> intro z <;> cases z
  | dT h _ =>
    rcases h with h | ⟨_, o, h⟩ <;> rw [h] <;> intro z <;> cases z
theorem OR.notb {a : Addr} {fr : Prop} {c : AV} (h : OR K i H a fr c) : ∀ u, H a = Option.some u → NoTb u := fun u hu => by
  cases h with
  | lst h _ => rw [h] at hu; cases hu; exact ⟨(fun _ z => by cases z), (fun _ z => by cases z)⟩
  | dK h _ => rcases h with h | ⟨_, o, h⟩ <;> rw [h] at hu <;> cases hu <;> exact ⟨(fun _ z => by cases z), (fun _ z => by cases z)⟩
  | dT h _ => rcases h with h | ⟨_, o, h⟩ <;> rw [h] at hu <;> cases hu <;> exact ⟨(fun _ z => by cases z), (fun _ z => by cases z)⟩
theorem Sim.get (S : Sim K T i M H) {n : Nat} {a : Addr} (h : i.num[n]? = some a) : ∃ c, M.objs[n]? = some c ∧ OR K i H a (n ∈ M.fz) c := by
  have hl : n < M.objs.length := by
    rw [← S.len]
    exact (List.getElem?_eq_some_iff.mp h).1
  exact ⟨M.objs[n], List.getElem?_eq_getElem hl, S.obj n a _ h (List.getElem?_eq_getElem hl)⟩
theorem Sim.dom (S : Sim K T i M H) {a : Addr} (h : a ∈ i) : H a ≠ none := by
  rcases h with h | h
  case inr => exact (S.sep a h).2
  obtain ⟨n, hn, e⟩ := List.mem_iff_getElem.mp h
  obtain ⟨c, _, o⟩ := S.get (n := n) (a := a) (by rw [List.getElem?_eq_getElem hn, e])
  exact o.some
theorem Sim.notin (S : Sim K T i M H) {a : Addr} (h : H a = none) : a ∉ i := fun z => S.dom z h
theorem Sim.at (S : Sim K T i M H) {n : Nat} {c : AV} (h : M.objs[n]? = some c) : ∃ a, i.num[n]? = some a ∧ OR K i H a (n ∈ M.fz) c := by
  have hl : n < i.num.length := by
    rw [S.len]
    exact (List.getElem?_eq_some_iff.mp h).1
  exact ⟨i.num[n], List.getElem?_eq_getElem hl, S.obj n _ c (List.getElem?_eq_getElem hl) h⟩
theorem OR.mono {a : Addr} {fr fr' : Prop} {c : AV} (e : Ext i j H H') (s : H' a = H a) (f : fr → fr') (h : OR K i H a fr c) : OR K j H' a fr' c := by
  cases h with
  | lst h1 h2 => exact .lst (by rw [s]; exact h1) (h2.mono e)
  | dK h1 h2 =>
    refine .dK ?_ (h2.mono e)
    rw [s]
    rcases h1 with h1 | ⟨h0, h1⟩
    · exact .inl h1
    · exact .inr ⟨f h0, h1⟩
  | dT h1 h2 =>
    refine .dT ?_ (h2.mono e)
    rw [s]
    rcases h1 with h1 | ⟨h0, h1⟩
    · exact .inl h1
    · exact .inr ⟨f h0, h1⟩
theorem Sim.stay (S : Sim K T i M H) (e : Ext i i H H') (s : ∀ a, a ∈ i → H' a = H a) : Sim K T i M H' := ⟨S.len, S.nd, fun a ha => ⟨(S.sep a ha).1, by rw [s a (.inr ha)]; exact (S.sep a ha).2⟩, fun n a c h1 h2 => (S.obj n a c h1 h2).mono e (s a (.inl (List.mem_of_getElem? h1))) id, fun a ha us => by rw [s a (.inr ha)]; exact S.nt a ha us, fun n hn => by
    obtain ⟨a, h1, o, u, h2⟩ := S.fzl n hn
    exact ⟨a, h1, o, u, by rw [s a (.inl (List.mem_of_getElem? h1))]; exact h2⟩, e.tbk S.tbs, fun a ha u hu => S.npv a ha u (by rw [← s a (.inr ha)]; exact hu), S.ht⟩
theorem Sim.fresh {p : Addr} {o : HO} (S : Sim K T i M H) (h : H p = none) : Sim K T i M (upd H p o) := S.stay (Ext.fresh h) fun a ha => by
  have ne : a ≠ p := fun z => S.notin h (z ▸ ha)
  exact upd_ne ne
theorem Sim.push {p : Addr} {o : HO} {c : AV} (S : Sim K T i M H) (h : H p = none) (ho : OR K (i.push p) (upd H p o) p (i.num.length ∈ M.fz) c) : Sim K T (i.push p) ⟨M.objs ++ [c], M.fz⟩ (upd H p o) where
  ht := S.ht
  tbs := tabs_upd (fun u z => by rw [h] at z; cases z) S.tbs
  npv := fun a ha u hu => by
    have ha' : a ∈ i.prv := ha
    have ne : a ≠ p := fun z => (S.sep a ha').2 (z ▸ h)
    rw [upd_ne ne] at hu
    exact S.npv a ha' u hu
  len := by simp [Ix.push, S.len]
  sep := fun a ha => by
    have ha' : a ∈ i.prv := ha
    have ne : a ≠ p := fun z => (S.sep a ha').2 (z ▸ h)
    refine ⟨fun z => ?_, by rw [upd_ne ne]; exact (S.sep a ha').2⟩
    rcases List.mem_append.mp z with z | z
    · exact (S.sep a ha').1 z
    · exact ne (List.mem_singleton.mp z)
  nt := fun a ha us => by
    have ha' : a ∈ i.prv := ha
    have ne : a ≠ p := fun z => (S.sep a ha').2 (z ▸ h)
    rw [upd_ne ne]
    exact S.nt a ha' us
  fzl := fun n hn => by
    obtain ⟨a, h1, o, u, h2⟩ := S.fzl n hn
    have ne : a ≠ p := fun z => by rw [z, h] at h2; cases h2
    refine ⟨a, ?_, o, u, by rw [upd_ne ne]; exact h2⟩
    show (i.num ++ [p])[n]? = some a
    rw [List.getElem?_append_left (List.getElem?_eq_some_iff.mp h1).1]
    exact h1
  nd := by
    show (i.num ++ [p]).Nodup
    rw [List.nodup_append]
    refine ⟨S.nd, by simp, fun a ha b hb z => ?_⟩
    rw [List.mem_singleton.mp hb] at z
    exact S.notin h (z ▸ .inl ha)
  obj := fun n a d h1 h2 => by
    have h1 : (i.num ++ [p])[n]? = some a := h1
    by_cases hn : n < i.num.length
    · rw [List.getElem?_append_left hn] at h1
      have hn' : n < M.objs.length := by rw [← S.len]; exact hn
      have h2' : M.objs[n]? = some d := by
        have q : (M.objs ++ [c])[n]? = some d := h2
        rw [List.getElem?_append_left hn'] at q
        exact q
      have ne : a ≠ p := fun z => S.notin h (z ▸ .inl (List.mem_of_getElem? h1))
      exact (S.obj n a d h1 h2').mono (Ext.push h) (upd_ne ne) id
    · have hl := (List.getElem?_eq_some_iff.mp h1).1
      simp only [List.length_append, List.length_cons, List.length_nil] at hl
      have e : n = i.num.length := by omega
      subst e
      have q1 : a = p := by
        simp at h1
        exact h1.symm
      have q2 : d = c := by
        have q : (M.objs ++ [c])[i.num.length]? = some d := h2
        rw [S.len] at q
        simp at q
        exact q.symm
      rw [q1, q2]
      exact ho
theorem OR.carry0 {a : Addr} {fr : Prop} {c : AV} (e : Carry i j H H') (s : H' a = H a) (h : OR K i H a fr c) : OR K j H' a fr c := by
  cases h with
  | lst h1 h2 => exact .lst (by rw [s]; exact h1) (h2.carry e)
  | dK h1 h2 => exact .dK (by rw [s]; exact h1) (h2.carry e)
  | dT h1 h2 => exact .dT (by rw [s]; exact h1) (h2.carry e)
theorem OR.fr {a : Addr} {f g : Prop} {c : AV} (h : OR K i H a f c) (k : f → g) : OR K i H a g c := by
  cases h with
  | lst h1 h2 => exact .lst h1 h2
  | dK h1 h2 => exact .dK (h1.imp id fun ⟨z, q⟩ => ⟨k z, q⟩) h2
  | dT h1 h2 => exact .dT (h1.imp id fun ⟨z, q⟩ => ⟨k z, q⟩) h2
theorem Sim.nofz (S : Sim K T i M H) {n : Nat} {a : Addr} {u : HO} (h : i.num[n]? = some a) (hu : H a = some u) (hz : ∀ o u', u ≠ .frz o u') : n ∉ M.fz := fun z => by
  obtain ⟨b, h1, o, u', h2⟩ := S.fzl n z
  rw [h] at h1
  cases h1
  rw [hu] at h2
  exact hz _ _ (Option.some.inj h2)
theorem Sim.same {n : Nat} {o : HO} (h : n ∉ M.fz) : ∀ m, m ∈ M.fz → (m ≠ n ∧ m ∈ M.fz) ∨ (m = n ∧ ∃ od u, o = .frz od u) := fun m hm => .inl ⟨fun e => h (e ▸ hm), hm⟩
theorem Sim.set {n : Nat} {a : Addr} {o : HO} {c : AV} {fz : List Nat} (S : Sim K T i M H) (h : i.num[n]? = some a) (ho : OR K i (upd H a o) a (n ∈ fz) c) (hf : ∀ m, m ≠ n → m ∈ M.fz → m ∈ fz) (hz : ∀ m, m ∈ fz → (m ≠ n ∧ m ∈ M.fz) ∨ (m = n ∧ ∃ od u, o = .frz od u)) : Sim K T i ⟨M.objs.set n c, fz⟩ (upd H a o) where
  ht := S.ht
  tbs := by
    obtain ⟨c0, _, o0⟩ := S.get h
    exact tabs_upd o0.notb S.tbs
  npv := fun b hb u hu => by
    have ne : b ≠ a := fun z => (S.sep b hb).1 (z ▸ List.mem_of_getElem? h)
    rw [upd_ne ne] at hu
    exact S.npv b hb u hu
  len := by simp [S.len]
  sep := fun b hb => by
    have ne : b ≠ a := fun z => (S.sep b hb).1 (z ▸ List.mem_of_getElem? h)
    exact ⟨(S.sep b hb).1, by rw [upd_ne ne]; exact (S.sep b hb).2⟩
  fzl := fun m hm => by
    rcases hz m hm with ⟨ne, hm⟩ | ⟨rfl, od, u, rfl⟩
    · obtain ⟨b, h1, o', u, h2⟩ := S.fzl m hm
      have nb : b ≠ a := fun z => ne (nd_ix S.nd h1 (z ▸ h))
      exact ⟨b, h1, o', u, by rw [upd_ne nb]; exact h2⟩
    · exact ⟨a, h, od, u, upd_same⟩
  nt := fun b hb us => by
    have ne : b ≠ a := fun z => (S.sep b hb).1 (z ▸ List.mem_of_getElem? h)
    rw [upd_ne ne]
    exact S.nt b hb us
  nd := S.nd
  obj := fun m b d h1 h2 => by
    by_cases e : m = n
    · subst e
      rw [h] at h1
      have q1 : a = b := Option.some.inj h1
      have hl : m < M.objs.length := by
        rw [← S.len]
        exact (List.getElem?_eq_some_iff.mp h).1
      have q2 : (M.objs.set m c)[m]? = some d := h2
      rw [List.getElem?_set_self hl] at q2
      rw [← q1, ← Option.some.inj q2]
      exact ho
    · have q2 : (M.objs.set n c)[m]? = some d := h2
      rw [List.getElem?_set_ne (Ne.symm e)] at q2
      have ne : b ≠ a := fun z => by
        rw [z] at h1
        exact e (nd_ix S.nd h1 h)
      exact ((S.obj m b d h1 q2).carry0 (Carry.mutn (List.mem_of_getElem? h)) (upd_ne ne)).fr (hf m e)
theorem OR.carry {a : Addr} {fr : Prop} {c : AV} (e : Carry i j H H') (s : H' a = H a) (h : OR K i H a fr c) : OR K j H' a fr c := by
  cases h with
  | lst h1 h2 => exact .lst (by rw [s]; exact h1) (h2.carry e)
  | dK h1 h2 => exact .dK (by rw [s]; exact h1) (h2.carry e)
  | dT h1 h2 => exact .dT (by rw [s]; exact h1) (h2.carry e)
theorem Sim.hide {p : Addr} {o : HO} (S : Sim K T i M H) (h : H p = none) (ho : ∀ us, o ≠ .tup us := by intro _ z; cases z) (hq : NoTb o := by exact ⟨(fun _ z => by cases z), (fun _ z => by cases z)⟩) : Sim K T (i.hide p) M (upd H p o) where
  ht := S.ht
  tbs := tabs_upd (fun u z => by rw [h] at z; cases z) S.tbs
  npv := fun a ha u hu => by
    rcases List.mem_cons.mp ha with z | z
    · subst z
      rw [upd_same] at hu
      cases hu
      exact hq
    · have ne : a ≠ p := fun q => (S.sep a z).2 (q ▸ h)
      rw [upd_ne ne] at hu
      exact S.npv a z u hu
  nt := fun a ha us => by
    rcases List.mem_cons.mp ha with z | z
    · subst z
      rw [upd_same]
      exact fun q => ho us (Option.some.inj q)
    · have ne : a ≠ p := fun q => (S.sep a z).2 (q ▸ h)
      rw [upd_ne ne]
      exact S.nt a z us
  fzl := fun n hn => by
    obtain ⟨a, h1, o', u, h2⟩ := S.fzl n hn
    have ne : a ≠ p := fun z => by rw [z, h] at h2; cases h2
    exact ⟨a, h1, o', u, by rw [upd_ne ne]; exact h2⟩
  len := S.len
  nd := S.nd
  sep := fun a ha => by
    rcases List.mem_cons.mp ha with z | z
    · subst z
      exact ⟨fun q => S.notin h (.inl q), by rw [upd_same]; intro q; cases q⟩
    · have ne : a ≠ p := fun q => (S.sep a z).2 (q ▸ h)
      exact ⟨(S.sep a z).1, by rw [upd_ne ne]; exact (S.sep a z).2⟩
  obj := fun n a c h1 h2 => (S.obj n a c h1 h2).carry (Carry.hide h) (upd_ne fun z => S.notin h (z ▸ .inl (List.mem_of_getElem? h1)))
theorem Sim.hmut {p : Addr} {o : HO} (S : Sim K T i M H) (hp : p ∈ i.prv) (ho : ∀ us, o ≠ .tup us := by intro _ z; cases z) (hq : NoTb o := by exact ⟨(fun _ z => by cases z), (fun _ z => by cases z)⟩) : Sim K T i M (upd H p o) where
  ht := S.ht
  tbs := tabs_upd (S.npv p hp) S.tbs
  npv := fun a ha u hu => by
    by_cases z : a = p
    · rw [z, upd_same] at hu
      cases hu
      exact hq
    · rw [upd_ne z] at hu
      exact S.npv a ha u hu
  nt := fun a ha us => by
    by_cases z : a = p
    · rw [z, upd_same]
      exact fun q => ho us (Option.some.inj q)
    · rw [upd_ne z]
      exact S.nt a ha us
  fzl := fun n hn => by
    obtain ⟨a, h1, o', u, h2⟩ := S.fzl n hn
    have ne : a ≠ p := fun z => (S.sep p hp).1 (z ▸ List.mem_of_getElem? h1)
    exact ⟨a, h1, o', u, by rw [upd_ne ne]; exact h2⟩
  len := S.len
  nd := S.nd
  sep := fun a ha => ⟨(S.sep a ha).1, by
    by_cases z : a = p
    · rw [z, upd_same]
      intro q
      cases q
    · rw [upd_ne z]
      exact (S.sep a ha).2⟩
  obj := fun n a c h1 h2 => (S.obj n a c h1 h2).carry (Carry.mutp hp) (upd_ne fun z => (S.sep p hp).1 (z ▸ List.mem_of_getElem? h1))
theorem Sim.show {p : Addr} (S : Sim K T i M H) : Sim K T (i.show p) M H where
  ht := S.ht
  tbs := S.tbs
  npv := fun a ha => S.npv a (List.mem_filter.mp ha).1
  len := S.len
  nd := S.nd
  sep := fun a ha => S.sep a (List.mem_filter.mp ha).1
  nt := fun a ha => S.nt a (List.mem_filter.mp ha).1
  fzl := S.fzl
  obj := fun n a c h1 h2 => (S.obj n a c h1 h2).carry Carry.show rfl
end
abbrev Env := List (Option AV)
structure ER (K : PySem.W.Frag) (i : Ix) (H : Hp) (σ : St) (G : Env) : Prop where
  len : σ.length = G.length
  at' : ∀ (n : Nat) (a : AV), G[n]? = some (some a) → ∃ v, σ[n]? = some (some v) ∧ VR K i H v a
theorem ER.mono {K : PySem.W.Frag} {i j : Ix} {H H' : Hp} {σ : St} {G : Env} (e : Ext i j H H') (r : ER K i H σ G) : ER K j H' σ G := ⟨r.len, fun n a h =>
  let ⟨v, h1, h2⟩ := r.at' n a h
  ⟨v, h1, h2.mono e⟩⟩
theorem ER.set {K : PySem.W.Frag} {i : Ix} {H : Hp} {σ : St} {G : Env} {n : Nat} {v : V} {a : AV} (r : ER K i H σ G) (h : VR K i H v a) : ER K i H (σ.set n (some v)) (G.set n (some a)) := ⟨by simp [r.len], fun m b hb => by
  by_cases e : m = n
  · subst e
    have hl : m < G.length := by
      have q := (List.getElem?_eq_some_iff.mp hb).1
      simpa using q
    rw [List.getElem?_set_self hl] at hb
    have q : a = b := Option.some.inj (Option.some.inj hb)
    exact ⟨v, by rw [List.getElem?_set_self (by rw [r.len]; exact hl)], q ▸ h⟩
  · rw [List.getElem?_set_ne (Ne.symm e)] at hb
    obtain ⟨w, h1, h2⟩ := r.at' m b hb
    exact ⟨w, by rw [List.getElem?_set_ne (Ne.symm e)]; exact h1, h2⟩⟩
theorem ER.carry {K : PySem.W.Frag} {i j : Ix} {H H' : Hp} {σ : St} {G : Env} (e : Carry i j H H') (r : ER K i H σ G) : ER K j H' σ G := ⟨r.len, fun n a h =>
  let ⟨v, h1, h2⟩ := r.at' n a h
  ⟨v, h1, h2.carry e⟩⟩
theorem ER.drop {K : PySem.W.Frag} {i : Ix} {H : Hp} {σ : St} {G : Env} {n : Nat} {o : Option V} (r : ER K i H σ G) : ER K i H (σ.set n o) (G.set n none) := ⟨by simp [r.len], fun m b hb => by
  by_cases e : m = n
  · subst e
    by_cases hl : m < G.length
    · rw [List.getElem?_set_self hl] at hb
      cases hb
    · rw [List.getElem?_eq_none (by simpa using hl)] at hb
      cases hb
  · rw [List.getElem?_set_ne (Ne.symm e)] at hb
    obtain ⟨w, h1, h2⟩ := r.at' m b hb
    exact ⟨w, by rw [List.getElem?_set_ne (Ne.symm e)]; exact h1, h2⟩⟩
inductive FR (K : PySem.W.Frag) (i : Ix) (H : Hp) : List (Str × V) → List (Str × AV) → Prop
  | nil : FR K i H [] []
  | cons {f : Str} {v : V} {a : AV} {us : List (Str × V)} {as : List (Str × AV)} : VR K i H v a → FR K i H us as → FR K i H ((f, v) :: us) ((f, a) :: as)
theorem FR.mono {K : PySem.W.Frag} {i j : Ix} {H H' : Hp} (e : Ext i j H H') : ∀ {us : List (Str × V)} {as : List (Str × AV)}, FR K i H us as → FR K j H' us as
  | _, _, .nil => .nil
  | _, _, .cons h r => .cons (h.mono e) (r.mono e)
structure Cm where
  K : PySem.W.Frag
  mg : Str → Option Value
def tbOne (C : Cm) (x : Str) : List (Addr × Str) := match C.mg x with
  | some (.ref f) => (match C.K.lookup f with
    | some o => (match o.data with
      | .func fd => (match fd.code with
        | .ref c => (match C.K.lookup c with
          | some oc => (match oc.data with
            | .fields vs => (match (vs[11]? : Option Value) with
              | some (Value.ref P) => [(P, (x ++ ".<locals>.") ++ "<lambda>")]
              | _ => [])
            | _ => [])
          | none => [])
        | _ => [])
      | _ => [])
    | none => [])
  | _ => []
def tbNames : List Str := ["_law_names_right", "_law_joins_right", "_law_papers_right"]
def Cm.tb (C : Cm) : List (Addr × Str) := tbNames.flatMap (tbOne C)
def XR (C : Cm) (i : Ix) (H : Hp) (cls : Value) (d : Option Addr) (c : Str) (fs : List (Str × AV)) : Prop :=
  ∃ A, C.mg c = some (.ref A) ∧ cls = .ref A ∧ ∃ dx us, d = some dx ∧ dx ∉ i ∧ H dx = some (.xd us) ∧ FR C.K i H us fs
def post {α β : Type} (C : Cm) (R : Ix → Hp → β → α → Prop) (i : Ix) (H : Hp) (r : Res α) (Q : β → Hp → Prop) (W : XK) : Prop := match r with
  | .ok a M => ∀ v j H', Ext i j H H' → Sim C.K C.tb j M H' → R j H' v a → Q v H'
  | .exc c fs M => ∀ cls d j H', Ext i j H H' → Sim C.K C.tb j M H' → XR C j H' cls d c fs → W cls d H'
  | .stuck => False
abbrev RV (C : Cm) : Ix → Hp → V → AV → Prop := fun i H v a => VR C.K i H v a
abbrev RVs (C : Cm) : Ix → Hp → List V → List AV → Prop := fun i H v a => VRs C.K i H v a
abbrev RB : Ix → Hp → Bool → Bool → Prop := fun _ _ v a => v = a
abbrev RO : Ix → Hp → Option Int → Option Int → Prop := fun _ _ v a => v = a
theorem post.bind {α β γ δ : Type} {C : Cm} {R : Ix → Hp → β → α → Prop} {R' : Ix → Hp → δ → γ → Prop} {i : Ix} {H : Hp} {r : Res α} {f : α → AH → Res γ} {Q : δ → Hp → Prop} {W : XK} (h : post C R' i H (r.bind f) Q W) :
    post C R i H r (fun v H1 => ∃ j a M, Ext i j H H1 ∧ Sim C.K C.tb j M H1 ∧ R j H1 v a ∧ post C R' j H1 (f a M) Q W) W := by
  cases r with
  | ok a M =>
    intro v j H' e s rr
    refine ⟨j, a, M, e, s, rr, ?_⟩
    have h' : post C R' i H (f a M) Q W := h
    cases q : f a M with
    | ok b M' =>
      rw [q] at h'
      intro v' k H2 e2 s2 r2
      exact h' v' k H2 (e.trans e2) s2 r2
    | exc c fs M' =>
      rw [q] at h'
      intro cls d k H2 e2 s2 x2
      exact h' cls d k H2 (e.trans e2) s2 x2
    | stuck =>
      rw [q] at h'
      exact h'
  | exc c fs M => exact h
  | stuck => exact h
theorem post.imp {α β : Type} {C : Cm} {R : Ix → Hp → β → α → Prop} {i : Ix} {H : Hp} {r : Res α} {Q Q' : β → Hp → Prop} {W W' : XK} (h : post C R i H r Q W) (hq : ∀ v H', Q v H' → Q' v H') (hw : ∀ c d H', W c d H' → W' c d H') : post C R i H r Q' W' := by
  cases r with
  | ok a M => exact fun v j H' e s r => hq _ _ (h v j H' e s r)
  | exc c fs M => exact fun cls d j H' e s x => hw _ _ _ (h cls d j H' e s x)
  | stuck => exact h
theorem post.now {α β : Type} {C : Cm} {R : Ix → Hp → β → α → Prop} {i : Ix} {H : Hp} {M : AH} {a : α} {v : β} {Q : β → Hp → Prop} {W : XK} (h : post C R i H (.ok a M) Q W) (s : Sim C.K C.tb i M H) (r : R i H v a) : Q v H := h v i H Ext.refl s r
abbrev EM := Env → AH → Res AV
abbrev BM := Env → AH → Res Bool
abbrev AM := Env → AH → Res (List AV)
abbrev OM := Env → AH → Res (Option Int)
def tM {α β : Type} (C : Cm) (W : WX) (R : Ix → Hp → β → α → Prop) (m : Env → AH → Res α) : St → Hp → (β → Hp → Prop) → Prop := fun σ H Q =>
  ∃ i G M, Sim C.K C.tb i M H ∧ ER C.K i H σ G ∧ post C R i H (m G M) Q (fun c d H' => W c d σ H')
abbrev tE (C : Cm) (W : WX) (m : EM) : TE := tM C W (RV C) m
abbrev tB' (C : Cm) (W : WX) (m : BM) : TT := tM C W RB m
abbrev tA (C : Cm) (W : WX) (m : AM) : TA := tM C W (RVs C) m
abbrev cm (X : Cx) : Cm := ⟨X.K, X.mg⟩
theorem PE.imp {X : Cx} {e : Expr} {t t' : TE} (h : PE X e t) (f : ∀ σ H Q, t' σ H Q → t σ H Q) : PE X e t' := ⟨fun pins s σ H Q I q => h.run pins s σ H Q I (f σ H Q q)⟩
theorem PT.imp {X : Cx} {e : Expr} {t t' : TT} (h : PT X e t) (f : ∀ σ H Q, t' σ H Q → t σ H Q) : PT X e t' := ⟨fun pins s σ H Q I q => h.run pins s σ H Q I (f σ H Q q)⟩
theorem PW.imp {X : Cx} {e : Expr} {t t' : TT} (h : PW X e t) (f : ∀ σ H Q, t' σ H Q → t σ H Q) : PW X e t' := ⟨fun wh pins s σ H Q I q => h.run wh pins s σ H Q I (f σ H Q q)⟩
theorem PA.imp {X : Cx} {es : List Expr} {t t' : TA} (h : PA X es t) (f : ∀ σ H Q, t' σ H Q → t σ H Q) : PA X es t' := ⟨fun pos pins s σ H Q I q => h.run pos pins s σ H Q I (f σ H Q q)⟩
theorem PS.imp {X : Cx} {st : Stmt} {t t' : TS} (h : PS X st t) (f : ∀ D σ H, t' D σ H → t D σ H) : PS X st t' := ⟨fun pins s σ H D I q => h.run pins s σ H D I (f D σ H q)⟩
theorem PSs.imp {X : Cx} {st : List Stmt} {t t' : TS} (h : PSs X st t) (f : ∀ D σ H, t' D σ H → t D σ H) : PSs X st t' := ⟨fun pins s σ H D I q => h.run pins s σ H D I (f D σ H q)⟩
theorem tM.bind {α β γ δ : Type} {C : Cm} {W : WX} {R : Ix → Hp → β → α → Prop} {R' : Ix → Hp → δ → γ → Prop} {m : Env → AH → Res α} {f : Env → α → AH → Res γ} {σ : St} {H : Hp} {Q : δ → Hp → Prop}
    (h : tM C W R' (fun G M => (m G M).bind (f G)) σ H Q) :
    tM C W R m σ H (fun v H1 => ∃ j G a M, Sim C.K C.tb j M H1 ∧ ER C.K j H1 σ G ∧ R j H1 v a ∧ post C R' j H1 (f G a M) Q (fun c d H' => W c d σ H')) := by
  obtain ⟨i, G, M, s, r, p⟩ := h
  refine ⟨i, G, M, s, r, (post.bind (R := R) p).imp (fun v H1 ⟨j, a, M', e, s', rr, p'⟩ => ?_) fun _ _ _ z => z⟩
  exact ⟨j, G, a, M', s', r.mono e, rr, p'⟩
end Mx

namespace Mx
open PySem L2
theorem tM.imp {α β : Type} {C : Cm} {W : WX} {R : Ix → Hp → β → α → Prop} {m : Env → AH → Res α} {σ : St} {H : Hp} {Q Q' : β → Hp → Prop} (h : tM C W R m σ H Q) (f : ∀ v H', Q v H' → Q' v H') : tM C W R m σ H Q' :=
  let ⟨i, G, M, s, r, p⟩ := h
  ⟨i, G, M, s, r, p.imp f fun _ _ _ z => z⟩
def mVar (n : Nat) : EM := fun G M => match G[n]? with
  | some (some a) => .ok a M
  | _ => .stuck
def mC (a : AV) : EM := fun _ M => .ok a M
section
variable {X : Cx} {W : WX} {pos : Pos}
theorem e_name {n : Nat} {x : Str} (h : PE X (.Name x pos) (tVar n)) : PE X (.Name x pos) (tE (cm X) W (mVar n)) := PE.imp h fun σ H Q ⟨i, G, M, s, r, p⟩ => by
  unfold mVar at p
  cases e : G[n]? with
  | none =>
    rw [e] at p
    exact p.elim
  | some o =>
    rw [e] at p
    cases o with
    | none => exact p.elim
    | some a =>
      obtain ⟨v, h1, h2⟩ := r.at' n a e
      exact ⟨v, h1, p.now s h2⟩
theorem e_const {e : Expr} {v : V} {a : AV} (h : PE X e (tC v)) (r : ∀ i H, VR X.K i H v a) : PE X e (tE (cm X) W (mC a)) := PE.imp h fun σ H Q ⟨i, G, M, s, _, p⟩ => p.now s (r i H)
theorem e_int {i : Int} {j : Nat} : PE X (.Constant (.int i) j pos) (tE (cm X) W (mC (.int i))) := e_const pe_int fun _ _ => .int i
theorem e_bl {b : Bool} {j : Nat} : PE X (.Constant (.bool b) j pos) (tE (cm X) W (mC (.bl b))) := e_const pe_bl fun _ _ => .bl b
theorem e_non {j : Nat} : PE X (.Constant .none j pos) (tE (cm X) W (mC .non)) := e_const pe_non fun _ _ => .non
theorem e_str {x : Str} {j : Nat} : PE X (.Constant (.str x) j pos) (tE (cm X) W (mC (.str x))) := e_const pe_str fun _ _ => .str x
end
def mBin (g : AV → AV → AH → Res AV) (ma mb : EM) : EM := fun G M => (ma G M).bind fun a M1 => (mb G M1).bind fun b M2 => g a b M2
def mUn (g : AV → AH → Res AV) (ma : EM) : EM := fun G M => (ma G M).bind fun a M1 => g a M1
def Op2 (C : Cm) (r : R2) (g : AV → AV → AH → Res AV) : Prop := ∀ i M H x y a b Q W, Sim C.K C.tb i M H → VR C.K i H x a → VR C.K i H y b → post C (RV C) i H (g a b M) Q W → r x y H Q
def Op1 (C : Cm) (r : V → Hp → VK → Prop) (g : AV → AH → Res AV) : Prop := ∀ i M H x a Q W, Sim C.K C.tb i M H → VR C.K i H x a → post C (RV C) i H (g a M) Q W → r x H Q
theorem bin2 {C : Cm} {W : WX} {r : R2} {g : AV → AV → AH → Res AV} {ma mb : EM} {σ : St} {H : Hp} {Q : VK} (hg : Op2 C r g) (h : tE C W (mBin g ma mb) σ H Q) : tOp r (tE C W ma) (tE C W mb) σ H Q := by
  have h1 := tM.bind (R := RV C) (m := ma) (f := fun G a M1 => (mb G M1).bind fun b M2 => g a b M2) h
  refine tM.imp h1 fun x H1 ⟨j, G, a, M, s, r, rr, p⟩ => ?_
  exact ⟨j, G, M, s, r, (post.bind (R := RV C) p).imp (fun y H2 ⟨k, b, M2, e, s2, ry, p2⟩ => hg k M2 H2 x y a b Q _ s2 (rr.mono e) ry p2) fun _ _ _ z => z⟩
theorem un1 {C : Cm} {W : WX} {r : V → Hp → VK → Prop} {g : AV → AH → Res AV} {ma : EM} {σ : St} {H : Hp} {Q : VK} (hg : Op1 C r g) (h : tE C W (mUn g ma) σ H Q) : tUn r (tE C W ma) σ H Q := by
  have h1 := tM.bind (R := RV C) (m := ma) (f := fun G a M1 => g a M1) h
  exact tM.imp h1 fun x H1 ⟨j, G, a, M, s, r, rr, p⟩ => hg j M H1 x a Q _ s rr p
theorem Op2.or {C : Cm} {r r' : R2} {g : AV → AV → AH → Res AV} (h : ∀ i M H x y a b Q W, Sim C.K C.tb i M H → VR C.K i H x a → VR C.K i H y b → post C (RV C) i H (g a b M) Q W → r x y H Q ∨ r' x y H Q) : Op2 C (fun x y H Q => r x y H Q ∨ r' x y H Q) g := h
section
variable {X : Cx} {W : WX} {pos : Pos} {a b c : Expr} {ma mb mc : EM}
theorem e_bin {op : Operator} {r : R2} {g : AV → AV → AH → Res AV} (ho : OpR X (binaryOp op) r) (hg : Op2 (cm X) r g) (ha : PE X a (tE (cm X) W ma)) (hb : PE X b (tE (cm X) W mb)) : PE X (.BinOp a op b pos) (tE (cm X) W (mBin g ma mb)) :=
  PE.imp (pe_op ho ha hb) fun _ _ _ h => bin2 hg h
theorem e_cmp {op : CmpOp} {r : R2} {g : AV → AV → AH → Res AV} (ho : OpR X (compareOp op) r) (hm : behindInMarks op b = false) (hg : Op2 (cm X) r g) (ha : PE X a (tE (cm X) W ma)) (hb : PE X b (tE (cm X) W mb)) : PE X (.Compare a [op] [b] pos) (tE (cm X) W (mBin g ma mb)) :=
  PE.imp (pe_cmpR ho ha hb hm) fun _ _ _ h => bin2 hg h
theorem e_un {op : UnaryOp} {r : V → Hp → VK → Prop} {g : AV → AH → Res AV} (ho : UnR X (unaryOp op) r) (hg : Op1 (cm X) r g) (ha : PE X a (tE (cm X) W ma)) : PE X (.UnaryOp op a pos) (tE (cm X) W (mUn g ma)) :=
  PE.imp (pe_un ho ha) fun _ _ _ h => un1 hg h
def mBl (m : EM) : BM := fun G M => (m G M).bind fun a M1 => match a with
  | .bl b => .ok b M1
  | _ => .stuck
theorem bl_of {C : Cm} {m : EM} {σ : St} {H : Hp} {Q : Bool → Hp → Prop} (h : tB' C W (mBl m) σ H Q) : tE C W m σ H (fun x H' => ∃ k, x = .bl k ∧ Q k H') := by
  have h1 := tM.bind (R := RV C) (m := m) (f := fun G a M1 => match a with | AV.bl b => Res.ok b M1 | _ => .stuck) h
  refine tM.imp h1 fun x H1 ⟨j, G, a, M, s, r, rr, p⟩ => ?_
  cases a with
  | bl b =>
    cases rr
    exact ⟨b, rfl, p.now s rfl⟩
  | _ => exact p.elim
theorem t_cmp {op : CmpOp} {r : R2} {g : AV → AV → AH → Res AV} (ho : OpR X (compareOp op) r) (hm : behindInMarks op b = false) (hg : Op2 (cm X) r g) (ha : PE X a (tE (cm X) W ma)) (hb : PE X b (tE (cm X) W mb)) : PT X (.Compare a [op] [b] pos) (tB' (cm X) W (mBl (mBin g ma mb))) :=
  PT.imp (pt_cmpR ho ha hb hm) fun _ _ _ h => bin2 hg (bl_of h)
def aTru (a : AV) (M : AH) : Res Bool := match a with
  | .non => .ok false M
  | .bl b => .ok b M
  | .int i => .ok (i != 0) M
  | .str x => if x.length ≤ 16777216 then .ok (x.length != 0) M else .stuck
  | .tup xs => .ok (!xs.isEmpty) M
  | .lst xs => .ok (!xs.isEmpty) M
  | .fro xs => .ok (!xs.isEmpty) M
  | .tuc xs => .ok (!xs.isEmpty) M
  | .ref n => match M.objs[n]? with
    | some (.lst xs) => .ok (!xs.isEmpty) M
    | _ => .stuck
  | _ => .stuck
theorem VRs.len {K : PySem.W.Frag} {i : Ix} {H : Hp} : ∀ {vs : List V} {as : List AV}, VRs K i H vs as → vs.length = as.length
  | _, _, .nil => rfl
  | _, _, .cons _ t => by rw [List.length_cons, List.length_cons, VRs.len t]
theorem VRs.emp {K : PySem.W.Frag} {i : Ix} {H : Hp} {vs : List V} {as : List AV} (r : VRs K i H vs as) : vs.isEmpty = as.isEmpty := by
  cases r <;> rfl
theorem sq_of {K : PySem.W.Frag} {H : Hp} {p : Addr} {xs : List V} (h : H p = some (.tup xs)) : SqT K H p xs := .inl (.inl h)
theorem sl_of {K : PySem.W.Frag} {i : Ix} {H : Hp} {p : Addr} {xs : List V} (h : (Rd H p (.lst xs) ∧ p ∉ i) ∨ KL K p xs) : SqL K H p xs := by
  rcases h with h | h
  · exact .inl h.1
  · exact .inr h
theorem tru {C : Cm} {m : EM} {σ : St} {H : Hp} {Q : Bool → Hp → Prop} (h : tB' C W (fun G M => (m G M).bind fun a M1 => aTru a M1) σ H Q) : tE C W m σ H (fun x H' => ∃ k, TruV C.K x H' k ∧ Q k H') := by
  have h1 := tM.bind (R := RV C) (m := m) (f := fun G a M1 => aTru a M1) h
  refine tM.imp h1 fun x H1 ⟨j, G, a, M, s, r, rr, p⟩ => ?_
  have hs : sizeLine = 16777216 := sizeLine_eq
  cases rr with
  | non => exact ⟨false, rfl, p.now s rfl⟩
  | bl b => exact ⟨b, rfl, p.now s rfl⟩
  | int k => exact ⟨k != 0, rfl, p.now s rfl⟩
  | str x =>
    by_cases hx : x.length ≤ 16777216
    · simp only [aTru, if_pos hx] at p
      refine ⟨x.length != 0, ⟨by rw [hs]; exact hx, ?_⟩, p.now s rfl⟩
      cases e : x.length with
      | zero => rfl
      | succ n =>
        show (n + 1 != 0) = (((n + 1 : Nat) : Int) != 0)
        have h1 : (n + 1 != 0) = true := by simp
        have h2 : (((n + 1 : Nat) : Int) != 0) = true := by
          rw [bne_iff_ne]
          omega
        rw [h1, h2]
    · simp only [aTru, if_neg hx] at p
      exact p.elim
  | tup h1 _ h2 => exact ⟨_, .inr (.inl ⟨_, .inl (.inl h1), rfl⟩), by rw [h2.emp]; exact p.now s rfl⟩
  | lst h1 _ h2 => exact ⟨_, .inl ⟨_, .inl (.inl h1), rfl⟩, by rw [h2.emp]; exact p.now s rfl⟩
  | fro h1 h2 => exact ⟨_, .inl ⟨_, sl_of h1, rfl⟩, by rw [h2.emp]; exact p.now s rfl⟩
  | tuc h1 h2 => exact ⟨_, .inr (.inl ⟨_, h1.sq, rfl⟩), by rw [h2.emp]; exact p.now s rfl⟩
  | ref hn =>
    obtain ⟨c, hc, ho⟩ := s.get hn
    simp only [aTru, hc] at p
    cases ho with
    | lst h1 h2 => exact ⟨_, .inl ⟨_, .inl (.inl h1), rfl⟩, by rw [h2.emp]; exact p.now s rfl⟩
    | dK _ _ => exact p.elim
    | dT _ _ => exact p.elim
def mTru (m : EM) : BM := fun G M => (m G M).bind fun a M1 => aTru a M1
theorem t_tru (ha : PE X a (tE (cm X) W ma)) (he : ∀ whole, isTrue a X.env whole = (do let v ← whole; standAt a.pos; holding [v] (truthy v)) := by intro _; rfl) : PT X a (tB' (cm X) W (mTru ma)) :=
  PT.imp (pt_truth ha he) fun _ _ _ h => tru h
def mAnd (m n : BM) : BM := fun G M => (m G M).bind fun c M1 => if c = true then n G M1 else .ok false M1
def mOr (m n : BM) : BM := fun G M => (m G M).bind fun c M1 => if c = true then .ok true M1 else n G M1
def mNot (m : BM) : BM := fun G M => (m G M).bind fun c M1 => .ok (!c) M1
variable {na nb : BM} {rest : List Expr}
theorem t_and1 (ha : PT X a (tB' (cm X) W na)) : PW X (.BoolOp .And [a] pos) (tB' (cm X) W na) := pw_and1 ha
theorem t_or1 (ha : PT X a (tB' (cm X) W na)) : PW X (.BoolOp .Or [a] pos) (tB' (cm X) W na) := pw_or1 ha
theorem t_and (ha : PT X a (tB' (cm X) W na)) (hb : PW X (.BoolOp .And (b :: rest) pos) (tB' (cm X) W nb)) : PW X (.BoolOp .And (a :: b :: rest) pos) (tB' (cm X) W (mAnd na nb)) :=
  PW.imp (pw_and ha hb) fun σ H Q h => by
    have h1 := tM.bind (R := RB) (m := na) (f := fun G c M1 => if c = true then nb G M1 else .ok false M1) h
    refine tM.imp h1 fun c H1 ⟨j, G, k, M, s, r, rr, p⟩ => ?_
    cases rr
    cases c with
    | true => exact ⟨j, G, M, s, r, p⟩
    | false => exact p.now s rfl
theorem t_or (ha : PT X a (tB' (cm X) W na)) (hb : PW X (.BoolOp .Or (b :: rest) pos) (tB' (cm X) W nb)) : PW X (.BoolOp .Or (a :: b :: rest) pos) (tB' (cm X) W (mOr na nb)) :=
  PW.imp (pw_or ha hb) fun σ H Q h => by
    have h1 := tM.bind (R := RB) (m := na) (f := fun G c M1 => if c = true then .ok true M1 else nb G M1) h
    refine tM.imp h1 fun c H1 ⟨j, G, k, M, s, r, rr, p⟩ => ?_
    cases rr
    cases c with
    | false => exact ⟨j, G, M, s, r, p⟩
    | true => exact p.now s rfl
theorem t_not (ha : PT X a (tB' (cm X) W na)) : PT X (.UnaryOp .Not a pos) (tB' (cm X) W (mNot na)) :=
  PT.imp (pt_not ha) fun σ H Q h => by
    have h1 := tM.bind (R := RB) (m := na) (f := fun G c M1 => .ok (!c) M1) h
    exact tM.imp h1 fun c H1 ⟨j, G, k, M, s, r, rr, p⟩ => by
      cases rr
      exact p.now s rfl
def mIfE (t : BM) (m n : EM) : EM := fun G M => (t G M).bind fun c M1 => if c = true then m G M1 else n G M1
theorem e_ifE (hc : PT X c (tB' (cm X) W na)) (ha : PE X a (tE (cm X) W ma)) (hb : PE X b (tE (cm X) W mb)) : PE X (.IfExp c a b pos) (tE (cm X) W (mIfE na ma mb)) :=
  PE.imp (pe_ifExp hc ha hb) fun σ H Q h => by
    have h1 := tM.bind (R := RB) (m := na) (f := fun G c M1 => if c = true then ma G M1 else mb G M1) h
    refine tM.imp h1 fun c H1 ⟨j, G, k, M, s, r, rr, p⟩ => ?_
    cases rr
    cases c with
    | true => exact ⟨j, G, M, s, r, p⟩
    | false => exact ⟨j, G, M, s, r, p⟩
def mAndV (m n : EM) : EM := fun G M => (m G M).bind fun a M1 => match a with
  | .bl c => if c = true then n G M1 else .ok (.bl false) M1
  | _ => .stuck
def mOrV (m n : EM) : EM := fun G M => (m G M).bind fun a M1 => match a with
  | .bl c => if c = true then .ok (.bl true) M1 else n G M1
  | _ => .stuck
def mNotV (m : EM) : EM := fun G M => (m G M).bind fun a M1 => match a with
  | .bl c => .ok (.bl (!c)) M1
  | _ => .stuck
theorem e_one {op : BoolOp} (ha : PE X a (tE (cm X) W ma)) : PE X (.BoolOp op [a] pos) (tE (cm X) W ma) := pe_one ha
theorem e_and (ha : PE X a (tE (cm X) W ma)) (hb : PE X (.BoolOp .And (b :: rest) pos) (tE (cm X) W mb)) : PE X (.BoolOp .And (a :: b :: rest) pos) (tE (cm X) W (mAndV ma mb)) :=
  PE.imp (pe_and ha hb) fun σ H Q h => by
    have h1 := tM.bind (R := RV (cm X)) (m := ma) (f := fun G a M1 => match a with | AV.bl c => if c = true then mb G M1 else Res.ok (AV.bl false) M1 | _ => .stuck) h
    refine tM.imp h1 fun x H1 ⟨j, G, k, M, s, r, rr, p⟩ => ?_
    cases k with
    | bl c =>
      cases rr
      refine ⟨c, rfl, ?_⟩
      cases c with
      | true => exact ⟨j, G, M, s, r, p⟩
      | false => exact p.now s (.bl false)
    | _ => exact p.elim
theorem e_not (ha : PE X a (tE (cm X) W ma)) : PE X (.UnaryOp .Not a pos) (tE (cm X) W (mNotV ma)) :=
  PE.imp (pe_not ha) fun σ H Q h => by
    have h1 := tM.bind (R := RV (cm X)) (m := ma) (f := fun G a M1 => match a with | AV.bl c => Res.ok (AV.bl (!c)) M1 | _ => .stuck) h
    refine tM.imp h1 fun x H1 ⟨j, G, k, M, s, r, rr, p⟩ => ?_
    cases k with
    | bl c =>
      cases rr
      exact ⟨c, rfl, p.now s (.bl (!c))⟩
    | _ => exact p.elim
end
def mNil : AM := fun _ M => .ok [] M
def mCons (m : EM) (n : AM) : AM := fun G M => (m G M).bind fun a M1 => (n G M1).bind fun as M2 => .ok (a :: as) M2
section
variable {X : Cx} {W : WX} {pos : Pos} {e : Expr} {es : List Expr} {m : EM} {n : AM}
theorem a_nil : PA X [] (tA (cm X) W mNil) := PA.imp pa_nil fun σ H Q ⟨i, G, M, s, r, p⟩ => p.now s .nil
theorem a_cons (he : PE X e (tE (cm X) W m)) (hr : PA X es (tA (cm X) W n)) (hs : starEach (e :: es) X.env = (false, eval e X.env) :: starEach es X.env := by rfl) : PA X (e :: es) (tA (cm X) W (mCons m n)) :=
  PA.imp (pa_cons he hr hs) fun σ H Q h => by
    have h1 := tM.bind (R := RV (cm X)) (m := m) (f := fun G a M1 => (n G M1).bind fun as M2 => .ok (a :: as) M2) h
    refine tM.imp h1 fun x H1 ⟨j, G, a, M, s, r, rr, p⟩ => ?_
    exact ⟨j, G, M, s, r, (post.bind (R := RVs (cm X)) p).imp (fun xs H2 ⟨k, as, M2, e2, s2, rs, p2⟩ => p2.now s2 (.cons (rr.mono e2) rs)) fun _ _ _ z => z⟩
def mCall (g : List AV → AH → Res AV) (n : AM) : EM := fun G M => (n G M).bind fun as M1 => g as M1
def OpC (C : Cm) (r : List V → Hp → VK → Prop) (g : List AV → AH → Res AV) : Prop := ∀ i M H xs as Q W, Sim C.K C.tb i M H → VRs C.K i H xs as → post C (RV C) i H (g as M) Q W → r xs H Q
theorem call1 {C : Cm} {r : List V → Hp → VK → Prop} {g : List AV → AH → Res AV} {σ : St} {H : Hp} {Q : VK} (hg : OpC C r g) (h : tE C W (mCall g n) σ H Q) : tCB r (tA C W n) σ H Q := by
  have h1 := tM.bind (R := RVs C) (m := n) (f := fun G as M1 => g as M1) h
  exact tM.imp h1 fun xs H1 ⟨j, G, as, M, s, r, rr, p⟩ => hg j M H1 xs as Q _ s rr p
def sized {α : Type} (n : Nat) (r : Res α) : Res α := if n ≤ 16777216 then r else .stuck
theorem sized_ok {α : Type} {n : Nat} {r : Res α} (h : n ≤ 16777216) : sized n r = r := if_pos h
theorem post.sized {α β : Type} {C : Cm} {R : Ix → Hp → β → α → Prop} {i : Ix} {H : Hp} {n : Nat} {r : Res α} {Q : β → Hp → Prop} {W : XK} (h : post C R i H (sized n r) Q W) : n ≤ sizeLine ∧ post C R i H r Q W := by
  by_cases hl : n ≤ 16777216
  · rw [sized_ok hl] at h
    exact ⟨by rw [sizeLine_eq]; exact hl, h⟩
  · have e : Mx.sized n r = .stuck := if_neg hl
    rw [e] at h
    exact h.elim
def gTupD : List AV → AH → Res AV := fun as M => sized as.length (.ok (.tup as) M)
def gLstD : List AV → AH → Res AV := fun as M => sized as.length (.ok (.lst as) M)
def gLstR : List AV → AH → Res AV := fun as M => sized as.length (.ok (.ref M.objs.length) ⟨M.objs ++ [.lst as], M.fz⟩)
theorem new_tup {C : Cm} {i : Ix} {M : AH} {H : Hp} {xs : List V} {as : List AV} {Q : VK} {W : XK} (s : Sim C.K C.tb i M H) (r : VRs C.K i H xs as) (p : post C (RV C) i H (.ok (.tup as) M) Q W) : ∀ a, H a = none → Q (.ref a) (upd H a (.tup xs)) :=
  fun a ha => p _ i _ (Ext.fresh ha) (s.fresh ha) (.tup upd_same (s.notin ha) (r.mono (Ext.fresh ha)))
theorem new_lst {C : Cm} {i : Ix} {M : AH} {H : Hp} {xs : List V} {as : List AV} {Q : VK} {W : XK} (s : Sim C.K C.tb i M H) (r : VRs C.K i H xs as) (p : post C (RV C) i H (.ok (.lst as) M) Q W) : ∀ a, H a = none → Q (.ref a) (upd H a (.lst xs)) :=
  fun a ha => p _ i _ (Ext.fresh ha) (s.fresh ha) (.lst upd_same (s.notin ha) (r.mono (Ext.fresh ha)))
theorem new_lstR {C : Cm} {i : Ix} {M : AH} {H : Hp} {xs : List V} {as : List AV} {Q : VK} {W : XK} (s : Sim C.K C.tb i M H) (r : VRs C.K i H xs as) (p : post C (RV C) i H (.ok (.ref M.objs.length) ⟨M.objs ++ [.lst as], M.fz⟩) Q W) : ∀ a, H a = none → Q (.ref a) (upd H a (.lst xs)) :=
  fun a ha => p _ (i.push a) _ (Ext.push ha) (s.push ha (.lst upd_same (r.mono (Ext.push ha)))) (.ref (by rw [← s.len]; simp [Ix.push]))
theorem c_tup {C : Cm} : OpC C (fun xs H Q => xs.length ≤ sizeLine ∧ ∀ p, H p = none → Q (.ref p) (upd H p (.tup xs))) gTupD := fun i M H xs as Q W s r p => by
  obtain ⟨h1, h2⟩ := p.sized
  exact ⟨by rw [r.len]; exact h1, new_tup s r h2⟩
theorem c_lst {C : Cm} : OpC C (fun xs H Q => xs.length ≤ sizeLine ∧ ∀ p, H p = none → Q (.ref p) (upd H p (.lst xs))) gLstD := fun i M H xs as Q W s r p => by
  obtain ⟨h1, h2⟩ := p.sized
  exact ⟨by rw [r.len]; exact h1, new_lst s r h2⟩
theorem c_lstR {C : Cm} : OpC C (fun xs H Q => xs.length ≤ sizeLine ∧ ∀ p, H p = none → Q (.ref p) (upd H p (.lst xs))) gLstR := fun i M H xs as Q W s r p => by
  obtain ⟨h1, h2⟩ := p.sized
  exact ⟨by rw [r.len]; exact h1, new_lstR s r h2⟩
abbrev mTup (n : AM) : EM := mCall gTupD n
abbrev mLst (n : AM) : EM := mCall gLstD n
abbrev mLstR (n : AM) : EM := mCall gLstR n
theorem e_tup {k : Nat} (h : PA X es (tA (cm X) W n)) : PE X (.Tuple es k pos) (tE (cm X) W (mTup n)) := PE.imp (pe_tup h) fun σ H Q h => call1 c_tup h
theorem e_lst (h : PA X es (tA (cm X) W n)) : PE X (.List es pos) (tE (cm X) W (mLst n)) := PE.imp (pe_lst h) fun σ H Q h => call1 c_lst h
theorem e_lstR (h : PA X es (tA (cm X) W n)) : PE X (.List es pos) (tE (cm X) W (mLstR n)) := PE.imp (pe_lst h) fun σ H Q h => call1 c_lstR h
theorem e_callB {x : Str} {id : String} {p : Pos} {r : List V → Hp → VK → Prop} {g : List AV → AH → Res AV} (hc : CallR X (.builtin id) r) (hg : OpC (cm X) r g) (hgl : Gl X x) (hm : X.mg x = none) (hv : bootBuiltins x = some (.builtin id)) (ha : PA X (e :: es) (tA (cm X) W n))
    (hn : x ≠ "__name__" := by decide) (hd : (x == ("__debug__" : Str)) = false := by decide) (he : starEach (e :: es) X.env = (false, eval e X.env) :: starEach es X.env := by rfl) (hpl : (backTo pos (starEach es X.env)).any (·.1) = false := by rfl) : PE X (.Call (.Name x p) (e :: es) [] pos) (tE (cm X) W (mCall g n)) :=
  PE.imp (pe_callB hc hgl hm hv ha hn hd he hpl) fun σ H Q h => call1 hg h
theorem e_callTy {x : Str} {T : String} {p : Pos} {r : List V → Hp → VK → Prop} {g : List AV → AH → Res AV} (hc : CallR X (.type T) r) (hg : OpC (cm X) r g) (hgl : Gl X x) (hm : X.mg x = none) (hv : bootBuiltins x = some (.type T)) (ha : PA X (e :: es) (tA (cm X) W n))
    (hn : x ≠ "__name__" := by decide) (hd : (x == ("__debug__" : Str)) = false := by decide) (he : starEach (e :: es) X.env = (false, eval e X.env) :: starEach es X.env := by rfl) (hpl : (backTo pos (starEach es X.env)).any (·.1) = false := by rfl) : PE X (.Call (.Name x p) (e :: es) [] pos) (tE (cm X) W (mCall g n)) :=
  PE.imp (pe_callTy hc hgl hm hv ha hn hd he hpl) fun σ H Q h => call1 hg h
end
end Mx

namespace Mx
open PySem L2
mutual
def toD : AV → PyData
  | .non => .none
  | .bl b => .bool b
  | .int i => .int i
  | .str x => .str x
  | .tup xs => .tuple (toDs xs)
  | .lst xs => .list (toDs xs)
  | .fro xs => .list (toDs xs)
  | .tuc xs => .tuple (toDs xs)
  | .dK _ => .none
  | .dT _ => .none
  | .ref _ => .none
def toDs : List AV → List PyData
  | [] => []
  | x :: xs => toD x :: toDs xs
end
theorem toDs_map : ∀ xs : List AV, toDs xs = xs.map toD
  | [] => rfl
  | x :: xs => by rw [toDs, toDs_map xs, List.map_cons]
def plain : Nat → AV → Bool
  | _, .non => true
  | _, .bl _ => true
  | _, .int _ => true
  | _, .str _ => true
  | n + 1, .tup xs => xs.all (plain n)
  | n + 1, .lst xs => xs.all (plain n)
  | n + 1, .fro xs => xs.all (plain n)
  | n + 1, .tuc xs => xs.all (plain n)
  | _, _ => false
def pdl : Nat → PyData → Bool
  | _, .none => true
  | _, .bool _ => true
  | _, .int _ => true
  | _, .str _ => true
  | n + 1, .list xs => xs.all (pdl n)
  | n + 1, .tuple xs => xs.all (pdl n)
  | _, _ => false
theorem pdl_of : ∀ (n : Nat) (a : AV), plain n a = true → pdl n (toD a) = true
  | n, .non, _ => by cases n <;> rfl
  | n, .bl _, _ => by cases n <;> rfl
  | n, .int _, _ => by cases n <;> rfl
  | n, .str _, _ => by cases n <;> rfl
  | 0, .tup xs, h => by cases h
  | 0, .lst xs, h => by cases h
  | 0, .fro xs, h => by cases h
  | 0, .tuc xs, h => by cases h
  | n + 1, .tup xs, h => by
    have h' : xs.all (plain n) = true := h
    show (toDs xs).all (pdl n) = true
    rw [toDs_map, List.all_map, List.all_eq_true]
    exact fun x hx => pdl_of n x (List.all_eq_true.mp h' x hx)
  | n + 1, .lst xs, h => by
    have h' : xs.all (plain n) = true := h
    show (toDs xs).all (pdl n) = true
    rw [toDs_map, List.all_map, List.all_eq_true]
    exact fun x hx => pdl_of n x (List.all_eq_true.mp h' x hx)
  | n + 1, .fro xs, h => by
    have h' : xs.all (plain n) = true := h
    show (toDs xs).all (pdl n) = true
    rw [toDs_map, List.all_map, List.all_eq_true]
    exact fun x hx => pdl_of n x (List.all_eq_true.mp h' x hx)
  | n + 1, .tuc xs, h => by
    have h' : xs.all (plain n) = true := h
    show (toDs xs).all (pdl n) = true
    rw [toDs_map, List.all_map, List.all_eq_true]
    exact fun x hx => pdl_of n x (List.all_eq_true.mp h' x hx)
  | n, .dK _, h => by cases n <;> cases h
  | n, .dT _, h => by cases n <;> cases h
  | n, .ref _, h => by cases n <;> cases h
section
variable {K : PySem.W.Frag} {i : Ix} {H : Hp}
mutual
theorem dp_of : ∀ (a : AV) (n : Nat) (v : V), plain n a = true → VR K i H v a → Dp K H v (toD a)
  | .non, _, _, _, h => by cases h; exact .non
  | .bl b, _, _, _, h => by cases h; exact .bl b
  | .int k, _, _, _, h => by cases h; exact .int k
  | .str x, _, _, _, h => by cases h; exact .str x
  | .tup as, 0, _, hp, _ => by cases hp
  | .lst as, 0, _, hp, _ => by cases hp
  | .fro as, 0, _, hp, _ => by cases hp
  | .tuc as, 0, _, hp, _ => by cases hp
  | .tup as, n + 1, _, hp, h => by
    cases h with
    | tup h1 _ h2 => exact .tup (sq_of h1) (dps_of as n _ hp h2)
  | .lst as, n + 1, _, hp, h => by
    cases h with
    | lst h1 _ h2 => exact .lst (.inl (.inl h1)) (dps_of as n _ hp h2)
  | .fro as, n + 1, _, hp, h => by
    cases h with
    | fro h1 h2 => exact .lst (sl_of h1) (dps_of as n _ hp h2)
  | .tuc as, n + 1, _, hp, h => by
    cases h with
    | tuc h1 h2 => exact .tup h1.sq (dps_of as n _ hp h2)
  | .dK _, n, _, hp, _ => by cases n <;> cases hp
  | .dT _, n, _, hp, _ => by cases n <;> cases hp
  | .ref _, n, _, hp, _ => by cases n <;> cases hp
theorem dps_of : ∀ (as : List AV) (n : Nat) (vs : List V), as.all (plain n) = true → VRs K i H vs as → DpAll K H vs (toDs as)
  | [], _, _, _, h => by cases h; exact .nil
  | a :: as, n, _, hp, h => by
    cases h with
    | cons h1 h2 =>
      rw [List.all_cons, Bool.and_eq_true] at hp
      exact .cons (dp_of a n _ hp.1 h1) (dps_of as n _ hp.2 h2)
end
end
open PySem.SeqAt in
theorem uniq_list {h : Heap} {p : Addr} {xs ys : List PyData} {as bs : List Addr} (a : Reads h (.ref p) (.list xs) as) (b : Reads h (.ref p) (.list ys) bs) : ∃ vs cs ds, ReadsAll h vs xs cs ∧ ReadsAll h vs ys ds := by
  cases a with
  | list a1 a2 a3 a4 =>
    cases b with
    | list b1 b2 b3 b4 =>
      rw [a1] at b1
      cases b1
      rw [a3] at b3
      injection b3 with e _
      subst e
      exact ⟨_, _, _, a4, b4⟩
theorem uniq_tuple {h : Heap} {p : Addr} {xs ys : List PyData} {as bs : List Addr} (a : Reads h (.ref p) (.tuple xs) as) (b : Reads h (.ref p) (.tuple ys) bs) : ∃ vs cs ds, ReadsAll h vs xs cs ∧ ReadsAll h vs ys ds := by
  cases a with
  | tuple a1 a2 a3 a4 =>
    cases b with
    | tuple b1 b2 b3 b4 =>
      rw [a1] at b1
      cases b1
      rw [a3] at b3
      injection b3 with e _
      subst e
      exact ⟨_, _, _, a4, b4⟩
mutual
theorem same_eqv : ∀ (x y : PyData) (n : Nat) (h : Heap) (v : Value) (as bs : List Addr), pdl n x = true → Reads h v x as → Reads h v y bs → PyData.eqv x y = true
  | .none, y, _, _, _, _, _, _, a, b => by cases a; cases b; simp [PyData.eqv]
  | .bool k, y, _, _, _, _, _, _, a, b => by cases a; cases b; simp [PyData.eqv]
  | .int k, y, _, _, _, _, _, _, a, b => by cases a; cases b; simp [PyData.eqv]
  | .str k, y, _, _, _, _, _, _, a, b => by cases a; cases b; simp [PyData.eqv]
  | .dict _, _, n, _, _, _, _, hp, _, _ => by cases n <;> cases hp
  | .list xs, _, 0, _, _, _, _, hp, _, _ => by cases hp
  | .tuple xs, _, 0, _, _, _, _, hp, _, _ => by cases hp
  | .list xs, y, n + 1, h, v, as, bs, hp, a, b => by
    cases a with
    | list a1 a2 a3 a4 =>
      cases b with
      | list b1 b2 b3 b4 =>
        obtain ⟨vs, cs, ds, r1, r2⟩ := uniq_list (.list a1 a2 a3 a4) (.list b1 b2 b3 b4)
        rw [PyData.eqv]
        exact same_eqvs xs _ n h vs _ _ hp r1 r2
      | tuple b1 b2 b3 b4 =>
        rw [a1] at b1
        cases b1
        rw [a2] at b2
        injection b2 with z
        exact absurd z (by decide)
      | dict b1 b2 =>
        rw [a1] at b1
        cases b1
        rw [a2] at b2
        injection b2 with z
        exact absurd z (by decide)
  | .tuple xs, y, n + 1, h, v, as, bs, hp, a, b => by
    cases a with
    | tuple a1 a2 a3 a4 =>
      cases b with
      | tuple b1 b2 b3 b4 =>
        obtain ⟨vs, cs, ds, r1, r2⟩ := uniq_tuple (.tuple a1 a2 a3 a4) (.tuple b1 b2 b3 b4)
        rw [PyData.eqv]
        exact same_eqvs xs _ n h vs _ _ hp r1 r2
      | list b1 b2 b3 b4 =>
        rw [a1] at b1
        cases b1
        rw [a2] at b2
        injection b2 with z
        exact absurd z (by decide)
      | dict b1 b2 =>
        rw [a1] at b1
        cases b1
        rw [a2] at b2
        injection b2 with z
        exact absurd z (by decide)
theorem same_eqvs : ∀ (xs ys : List PyData) (n : Nat) (h : Heap) (vs : List Value) (as bs : List Addr), xs.all (pdl n) = true → ReadsAll h vs xs as → ReadsAll h vs ys bs → PyData.eqvAll xs ys = true
  | [], _, _, _, _, _, _, _, a, b => by cases a; cases b; rfl
  | x :: xs, _, n, h, _, _, _, hp, a, b => by
    cases a with
    | cons a1 a2 =>
      cases b with
      | cons b1 b2 =>
        rw [List.all_cons, Bool.and_eq_true] at hp
        rw [PyData.eqvAll, same_eqv x _ n h _ _ _ hp.1 a1 b1, same_eqvs xs _ n h _ _ _ hp.2 a2 b2]
        rfl
end
section
variable {A : Around} {s : Shared}
open PySem.SeqAt
theorem in1_room {n : Nat} (h : A.units + (n + 1) < cLine) : A.in1.units + n < cLine := by
  show A.units + 1 + n < cLine
  omega
theorem all_at {α : Type} {p : α → Bool} {l : List α} (h : l.all p = true) {j : Nat} {x : α} (e : l[j]? = some x) : p x = true := List.all_eq_true.mp h x (List.mem_of_getElem? e)
theorem reads_at : ∀ {h : Heap} {vs : List Value} {ds : List PyData} {as : List Addr}, ReadsAll h vs ds as → ∀ (j : Nat) (hj : j < vs.length), ∃ d bs, ds[j]? = some d ∧ Reads h vs[j] d bs
  | _, _, _, _, .nil, j, hj => absurd hj (Nat.not_lt_zero j)
  | _, _, _, _, .cons r t, 0, _ => ⟨_, _, rfl, r⟩
  | _, _, _, _, .cons r t, j + 1, hj => by
    obtain ⟨d, bs, e, q⟩ := reads_at t j (Nat.lt_of_succ_lt_succ hj)
    exact ⟨d, bs, e, q⟩
theorem getD_of {ds : List PyData} {j : Nat} {d : PyData} (e : ds[j]? = some d) : ds.getD j .none = d := by simp [List.getD, e]
theorem eq_deep : ∀ (n : Nat) (x y : PyData) (A : Around) (s : Shared) (a b : Value) (as bs : List Addr), Reads s.heap a x as → Reads s.heap b y bs → pdl n x = true → pdl n y = true → A.units + n < cLine → EqAt A s a b (PyData.eqv x y) := by
  intro n
  induction n with
  | zero =>
    intro x y A s a b as bs ra rb hx hy hu
    cases ra with
    | none =>
      cases rb with
      | none => exact .same _
      | bool k => exact .none_bool k
      | int k u => exact .none_int k u
      | str k u => exact .none_str k u
      | list _ _ _ _ => cases hy
      | tuple _ _ _ _ => cases hy
      | dict _ _ _ _ _ => cases hy
    | bool z =>
      cases rb with
      | none => exact .bool_none z
      | bool k => exact .bool_bool z k
      | int k u => exact .bool_int z k u
      | str k u => exact .bool_str z k u
      | list _ _ _ _ => cases hy
      | tuple _ _ _ _ => cases hy
      | dict _ _ _ _ _ => cases hy
    | int z t =>
      cases rb with
      | none => exact .int_none z t
      | bool k => exact .int_bool z t k
      | int k u => exact .int_int z t k u
      | str k u => exact .int_str z t k u
      | list _ _ _ _ => cases hy
      | tuple _ _ _ _ => cases hy
      | dict _ _ _ _ _ => cases hy
    | str z t =>
      cases rb with
      | none => exact .str_none z t
      | bool k => exact .str_bool z t k
      | int k u => exact .str_int z t k u
      | str k u => exact .str_str z t k u
      | list _ _ _ _ => cases hy
      | tuple _ _ _ _ => cases hy
      | dict _ _ _ _ _ => cases hy
    | list _ _ _ _ => cases hx
    | tuple _ _ _ _ => cases hx
    | dict _ _ _ _ _ => cases hx
  | succ n ih =>
    intro x y A s a b as bs ra rb hx hy hu
    have h0 : A.units < cLine := by omega
    cases ra with
    | none =>
      cases rb with
      | none => exact .same _
      | bool k => exact .none_bool k
      | int k u => exact .none_int k u
      | str k u => exact .none_str k u
      | list b1 b2 b3 b4 => exact .none_list ⟨_, b1, b2, _, b3⟩ h0
      | tuple b1 b2 b3 b4 => exact .none_tuple ⟨_, b1, b2, _, b3⟩ h0
      | dict _ _ _ _ _ => cases hy
    | bool z =>
      cases rb with
      | none => exact .bool_none z
      | bool k => exact .bool_bool z k
      | int k u => exact .bool_int z k u
      | str k u => exact .bool_str z k u
      | list b1 b2 b3 b4 => exact .bool_list z ⟨_, b1, b2, _, b3⟩ h0
      | tuple b1 b2 b3 b4 => exact .bool_tuple z ⟨_, b1, b2, _, b3⟩ h0
      | dict _ _ _ _ _ => cases hy
    | int z t =>
      cases rb with
      | none => exact .int_none z t
      | bool k => exact .int_bool z t k
      | int k u => exact .int_int z t k u
      | str k u => exact .int_str z t k u
      | list b1 b2 b3 b4 => exact .int_list z t ⟨_, b1, b2, _, b3⟩ h0
      | tuple b1 b2 b3 b4 => exact .int_tuple z t ⟨_, b1, b2, _, b3⟩ h0
      | dict _ _ _ _ _ => cases hy
    | str z t =>
      cases rb with
      | none => exact .str_none z t
      | bool k => exact .str_bool z t k
      | int k u => exact .str_int z t k u
      | str k u => exact .str_str z t k u
      | list b1 b2 b3 b4 => exact .str_list z t ⟨_, b1, b2, _, b3⟩ h0
      | tuple b1 b2 b3 b4 => exact .str_tuple z t ⟨_, b1, b2, _, b3⟩ h0
      | dict _ _ _ _ _ => cases hy
    | @list l o vs nn xs cs a1 a2 a3 a4 =>
      have hl : s.heap.IsList l vs := ⟨_, a1, a2, _, a3⟩
      cases rb with
      | none => exact .list_none hl h0
      | bool k => exact .list_bool k hl h0
      | int k u => exact .list_int k u hl h0
      | str k u => exact .list_str k u hl h0
      | tuple b1 b2 b3 b4 => exact .list_tuple hl ⟨_, b1, b2, _, b3⟩ h0
      | dict _ _ _ _ _ => cases hy
      | @list l' o' ws mm ys ds b1 b2 b3 b4 =>
        have hm : s.heap.IsList l' ws := ⟨_, b1, b2, _, b3⟩
        by_cases same : l = l'
        · subst same
          have e : PyData.eqv (.list xs) (.list ys) = true := same_eqv _ _ (n + 1) s.heap (.ref l) _ _ hx (.list a1 a2 a3 a4) (.list b1 b2 b3 b4)
          rw [e]
          exact .same _
        · have n1 : vs.size = xs.length := by simpa using ReadsAll.length _ _ _ a4
          have n2 : ws.size = ys.length := by simpa using ReadsAll.length _ _ _ b4
          rw [PyData.eqv]
          by_cases sz : vs.size = ws.size
          · rw [← eqvAll_same_length (show xs.length = ys.length by omega), ← n1]
            refine EqAt.of_refs same (RcAt.lists hl hm sz h0 fun j j1 j2 => ?_)
            obtain ⟨d, u1, e1, q1⟩ := reads_at a4 j (by simpa using j1)
            obtain ⟨d', u2, e2, q2⟩ := reads_at b4 j (by simpa using j2)
            show EqAt A.in1 s vs[j] ws[j] (PyData.eqv (xs.getD j .none) (ys.getD j .none))
            rw [getD_of e1, getD_of e2]
            exact ih d d' A.in1 s _ _ _ _ (by simpa using q1) (by simpa using q2) (all_at hx e1) (all_at hy e2) (in1_room hu)
          · rw [eqvAll_other_length (show xs.length ≠ ys.length by omega)]
            exact EqAt.of_refs same (RcAt.lists_lengths hl hm (by simpa using sz) h0)
    | @tuple l o vs nn xs cs a1 a2 a3 a4 =>
      have hl : s.heap.IsTuple l vs := ⟨_, a1, a2, _, a3⟩
      cases rb with
      | none => exact .tuple_none hl h0
      | bool k => exact .tuple_bool k hl h0
      | int k u => exact .tuple_int k u hl h0
      | str k u => exact .tuple_str k u hl h0
      | list b1 b2 b3 b4 => exact .tuple_list hl ⟨_, b1, b2, _, b3⟩ h0
      | dict _ _ _ _ _ => cases hy
      | @tuple l' o' ws mm ys ds b1 b2 b3 b4 =>
        have hm : s.heap.IsTuple l' ws := ⟨_, b1, b2, _, b3⟩
        by_cases same : l = l'
        · subst same
          have e : PyData.eqv (.tuple xs) (.tuple ys) = true := same_eqv _ _ (n + 1) s.heap (.ref l) _ _ hx (.tuple a1 a2 a3 a4) (.tuple b1 b2 b3 b4)
          rw [e]
          exact .same _
        · have n1 : vs.size = xs.length := by simpa using ReadsAll.length _ _ _ a4
          have n2 : ws.size = ys.length := by simpa using ReadsAll.length _ _ _ b4
          rw [PyData.eqv, ← eqvAll_eq xs ys, ← n1, ← n2]
          refine EqAt.of_refs same (RcAt.tuples hl hm h0 fun j j1 j2 => ?_)
          obtain ⟨d, u1, e1, q1⟩ := reads_at a4 j (by simpa using j1)
          obtain ⟨d', u2, e2, q2⟩ := reads_at b4 j (by simpa using j2)
          show EqAt A.in1 s vs[j] ws[j] (PyData.eqv (xs.getD j .none) (ys.getD j .none))
          rw [getD_of e1, getD_of e2]
          exact ih d d' A.in1 s _ _ _ _ (by simpa using q1) (by simpa using q2) (all_at hx e1) (all_at hy e2) (in1_room hu)
    | dict _ _ _ _ _ => cases hx
theorem rc_deep (n : Nat) (x y : PyData) (A : Around) (s : Shared) (a b : Value) (as bs : List Addr) (ra : Reads s.heap a x as) (rb : Reads s.heap b y bs) (hx : pdl n x = true) (hy : pdl n y = true) (hu : A.units + n < cLine) : RcAt A s a b (PyData.eqv x y) := by
  have h0 : A.units < cLine := by omega
  cases ra with
  | none =>
    cases rb with
    | none => exact .none_none
    | bool w => exact .none_bool w
    | int w u => exact .none_int w u
    | str w u => exact .none_str w u
    | list b1 b2 b3 b4 => exact .none_list ⟨_, b1, b2, _, b3⟩ h0
    | tuple b1 b2 b3 b4 => exact .none_tuple ⟨_, b1, b2, _, b3⟩ h0
    | dict _ _ _ _ _ => cases n <;> cases hy
  | bool z =>
    cases rb with
    | none => exact .bool_none z
    | bool w => exact .bool_bool z w
    | int w u => exact .bool_int z w u
    | str w u => exact .bool_str z w u
    | list b1 b2 b3 b4 => exact .bool_list z ⟨_, b1, b2, _, b3⟩ h0
    | tuple b1 b2 b3 b4 => exact .bool_tuple z ⟨_, b1, b2, _, b3⟩ h0
    | dict _ _ _ _ _ => cases n <;> cases hy
  | int z t =>
    cases rb with
    | none => exact .int_none z t
    | bool w => exact .int_bool z t w
    | int w u => exact .int_int z t w u
    | str w u => exact .int_str z t w u
    | list b1 b2 b3 b4 => exact .int_list z t ⟨_, b1, b2, _, b3⟩ h0
    | tuple b1 b2 b3 b4 => exact .int_tuple z t ⟨_, b1, b2, _, b3⟩ h0
    | dict _ _ _ _ _ => cases n <;> cases hy
  | str z t =>
    cases rb with
    | none => exact .str_none z t
    | bool w => exact .str_bool z t w
    | int w u => exact .str_int z t w u
    | str w u => exact .str_str z t w u
    | list b1 b2 b3 b4 => exact .str_list z t ⟨_, b1, b2, _, b3⟩ h0
    | tuple b1 b2 b3 b4 => exact .str_tuple z t ⟨_, b1, b2, _, b3⟩ h0
    | dict _ _ _ _ _ => cases n <;> cases hy
  | @list l o vs nn xs cs a1 a2 a3 a4 =>
    cases n with
    | zero => cases hx
    | succ n =>
      have hl : s.heap.IsList l vs := ⟨_, a1, a2, _, a3⟩
      cases rb with
      | none => exact .list_none hl h0
      | bool w => exact .list_bool w hl h0
      | int w u => exact .list_int w u hl h0
      | str w u => exact .list_str w u hl h0
      | tuple b1 b2 b3 b4 => exact .list_tuple hl ⟨_, b1, b2, _, b3⟩ h0
      | dict _ _ _ _ _ => cases hy
      | @list l' o' ws mm ys ds b1 b2 b3 b4 =>
        have hm : s.heap.IsList l' ws := ⟨_, b1, b2, _, b3⟩
        have n1 : vs.size = xs.length := by simpa using ReadsAll.length _ _ _ a4
        have n2 : ws.size = ys.length := by simpa using ReadsAll.length _ _ _ b4
        have he : ∀ (j : Nat) (j1 : j < vs.size) (j2 : j < ws.size), EqAt A.in1 s vs[j] ws[j] (pairEq xs ys j) := fun j j1 j2 => by
          obtain ⟨d, u1, e1, q1⟩ := reads_at a4 j (by simpa using j1)
          obtain ⟨d', u2, e2, q2⟩ := reads_at b4 j (by simpa using j2)
          show EqAt A.in1 s vs[j] ws[j] (PyData.eqv (xs.getD j .none) (ys.getD j .none))
          rw [getD_of e1, getD_of e2]
          exact eq_deep n d d' A.in1 s _ _ _ _ (by simpa using q1) (by simpa using q2) (all_at hx e1) (all_at hy e2) (in1_room hu)
        rw [PyData.eqv]
        by_cases sz : vs.size = ws.size
        · rw [← eqvAll_same_length (show xs.length = ys.length by omega), ← n1]
          exact RcAt.lists hl hm sz h0 he
        · rw [eqvAll_other_length (show xs.length ≠ ys.length by omega)]
          exact RcAt.lists_lengths hl hm (by simpa using sz) h0
  | @tuple l o vs nn xs cs a1 a2 a3 a4 =>
    cases n with
    | zero => cases hx
    | succ n =>
      have hl : s.heap.IsTuple l vs := ⟨_, a1, a2, _, a3⟩
      cases rb with
      | none => exact .tuple_none hl h0
      | bool w => exact .tuple_bool w hl h0
      | int w u => exact .tuple_int w u hl h0
      | str w u => exact .tuple_str w u hl h0
      | list b1 b2 b3 b4 => exact .tuple_list hl ⟨_, b1, b2, _, b3⟩ h0
      | dict _ _ _ _ _ => cases hy
      | @tuple l' o' ws mm ys ds b1 b2 b3 b4 =>
        have hm : s.heap.IsTuple l' ws := ⟨_, b1, b2, _, b3⟩
        have n1 : vs.size = xs.length := by simpa using ReadsAll.length _ _ _ a4
        have n2 : ws.size = ys.length := by simpa using ReadsAll.length _ _ _ b4
        have he : ∀ (j : Nat) (j1 : j < vs.size) (j2 : j < ws.size), EqAt A.in1 s vs[j] ws[j] (pairEq xs ys j) := fun j j1 j2 => by
          obtain ⟨d, u1, e1, q1⟩ := reads_at a4 j (by simpa using j1)
          obtain ⟨d', u2, e2, q2⟩ := reads_at b4 j (by simpa using j2)
          show EqAt A.in1 s vs[j] ws[j] (PyData.eqv (xs.getD j .none) (ys.getD j .none))
          rw [getD_of e1, getD_of e2]
          exact eq_deep n d d' A.in1 s _ _ _ _ (by simpa using q1) (by simpa using q2) (all_at hx e1) (all_at hy e2) (in1_room hu)
        rw [PyData.eqv]
        rw [← eqvAll_eq xs ys, ← n1, ← n2]
        exact RcAt.tuples hl hm h0 he
  | dict _ _ _ _ _ => cases n <;> cases hx
theorem ne_deep (n : Nat) (x y : PyData) (A : Around) (s : Shared) (a b : Value) (as bs : List Addr) (ra : Reads s.heap a x as) (rb : Reads s.heap b y bs) (hx : pdl n x = true) (hy : pdl n y = true) (hu : A.units + n < cLine) : RcNeAt A s a b (!PyData.eqv x y) := by
  have h0 : A.units < cLine := by omega
  cases ra with
  | none =>
    cases rb with
    | none => exact .none_none
    | bool w => exact .none_bool w
    | int w u => exact .none_int w u
    | str w u => exact .none_str w u
    | list b1 b2 b3 b4 => exact .none_list ⟨_, b1, b2, _, b3⟩ h0
    | tuple b1 b2 b3 b4 => exact .none_tuple ⟨_, b1, b2, _, b3⟩ h0
    | dict _ _ _ _ _ => cases n <;> cases hy
  | bool z =>
    cases rb with
    | none => exact .bool_none z
    | bool w => exact .bool_bool z w
    | int w u => exact .bool_int z w u
    | str w u => exact .bool_str z w u
    | list b1 b2 b3 b4 => exact .bool_list z ⟨_, b1, b2, _, b3⟩ h0
    | tuple b1 b2 b3 b4 => exact .bool_tuple z ⟨_, b1, b2, _, b3⟩ h0
    | dict _ _ _ _ _ => cases n <;> cases hy
  | int z t =>
    cases rb with
    | none => exact .int_none z t
    | bool w => exact .int_bool z t w
    | int w u => exact .int_int z t w u
    | str w u => exact .int_str z t w u
    | list b1 b2 b3 b4 => exact .int_list z t ⟨_, b1, b2, _, b3⟩ h0
    | tuple b1 b2 b3 b4 => exact .int_tuple z t ⟨_, b1, b2, _, b3⟩ h0
    | dict _ _ _ _ _ => cases n <;> cases hy
  | str z t =>
    cases rb with
    | none => exact .str_none z t
    | bool w => exact .str_bool z t w
    | int w u => exact .str_int z t w u
    | str w u => exact .str_str z t w u
    | list b1 b2 b3 b4 => exact .str_list z t ⟨_, b1, b2, _, b3⟩ h0
    | tuple b1 b2 b3 b4 => exact .str_tuple z t ⟨_, b1, b2, _, b3⟩ h0
    | dict _ _ _ _ _ => cases n <;> cases hy
  | @list l o vs nn xs cs a1 a2 a3 a4 =>
    cases n with
    | zero => cases hx
    | succ n =>
      have hl : s.heap.IsList l vs := ⟨_, a1, a2, _, a3⟩
      cases rb with
      | none => exact .list_none hl h0
      | bool w => exact .list_bool w hl h0
      | int w u => exact .list_int w u hl h0
      | str w u => exact .list_str w u hl h0
      | tuple b1 b2 b3 b4 => exact .list_tuple hl ⟨_, b1, b2, _, b3⟩ h0
      | dict _ _ _ _ _ => cases hy
      | @list l' o' ws mm ys ds b1 b2 b3 b4 =>
        have hm : s.heap.IsList l' ws := ⟨_, b1, b2, _, b3⟩
        have n1 : vs.size = xs.length := by simpa using ReadsAll.length _ _ _ a4
        have n2 : ws.size = ys.length := by simpa using ReadsAll.length _ _ _ b4
        have he : ∀ (j : Nat) (j1 : j < vs.size) (j2 : j < ws.size), EqAt A.in1 s vs[j] ws[j] (pairEq xs ys j) := fun j j1 j2 => by
          obtain ⟨d, u1, e1, q1⟩ := reads_at a4 j (by simpa using j1)
          obtain ⟨d', u2, e2, q2⟩ := reads_at b4 j (by simpa using j2)
          show EqAt A.in1 s vs[j] ws[j] (PyData.eqv (xs.getD j .none) (ys.getD j .none))
          rw [getD_of e1, getD_of e2]
          exact eq_deep n d d' A.in1 s _ _ _ _ (by simpa using q1) (by simpa using q2) (all_at hx e1) (all_at hy e2) (in1_room hu)
        rw [PyData.eqv]
        by_cases sz : vs.size = ws.size
        · rw [← eqvAll_same_length (show xs.length = ys.length by omega), ← n1]
          exact RcNeAt.lists hl hm sz h0 he
        · rw [eqvAll_other_length (show xs.length ≠ ys.length by omega)]
          exact RcNeAt.lists_lengths hl hm (by simpa using sz) h0
  | @tuple l o vs nn xs cs a1 a2 a3 a4 =>
    cases n with
    | zero => cases hx
    | succ n =>
      have hl : s.heap.IsTuple l vs := ⟨_, a1, a2, _, a3⟩
      cases rb with
      | none => exact .tuple_none hl h0
      | bool w => exact .tuple_bool w hl h0
      | int w u => exact .tuple_int w u hl h0
      | str w u => exact .tuple_str w u hl h0
      | list b1 b2 b3 b4 => exact .tuple_list hl ⟨_, b1, b2, _, b3⟩ h0
      | dict _ _ _ _ _ => cases hy
      | @tuple l' o' ws mm ys ds b1 b2 b3 b4 =>
        have hm : s.heap.IsTuple l' ws := ⟨_, b1, b2, _, b3⟩
        have n1 : vs.size = xs.length := by simpa using ReadsAll.length _ _ _ a4
        have n2 : ws.size = ys.length := by simpa using ReadsAll.length _ _ _ b4
        have he : ∀ (j : Nat) (j1 : j < vs.size) (j2 : j < ws.size), EqAt A.in1 s vs[j] ws[j] (pairEq xs ys j) := fun j j1 j2 => by
          obtain ⟨d, u1, e1, q1⟩ := reads_at a4 j (by simpa using j1)
          obtain ⟨d', u2, e2, q2⟩ := reads_at b4 j (by simpa using j2)
          show EqAt A.in1 s vs[j] ws[j] (PyData.eqv (xs.getD j .none) (ys.getD j .none))
          rw [getD_of e1, getD_of e2]
          exact eq_deep n d d' A.in1 s _ _ _ _ (by simpa using q1) (by simpa using q2) (all_at hx e1) (all_at hy e2) (in1_room hu)
        rw [PyData.eqv]
        rw [← eqvAll_eq xs ys, ← n1, ← n2]
        exact RcNeAt.tuples hl hm h0 he
  | dict _ _ _ _ _ => cases n <;> cases hx
end
def top (M : AH) : AV → AV
  | .ref n => M.objs.getD n .non
  | a => a
theorem dp_top {K : PySem.W.Frag} {T : List (Addr × Str)} {i : Ix} {M : AH} {H : Hp} {v : V} {a : AV} {n : Nat} (s : Sim K T i M H) (r : VR K i H v a) (h : plain n (top M a) = true) : Dp K H v (toD (top M a)) := by
  cases r with
  | @ref p k hk =>
    obtain ⟨c, hc, ho⟩ := s.get hk
    have e : top M (.ref k) = c := by simp [top, List.getD, hc]
    rw [e] at h ⊢
    cases ho with
    | lst h1 h2 =>
      cases n with
      | zero => cases h
      | succ n => exact .lst (.inl (.inl h1)) (dps_of _ n _ h h2)
    | dK _ _ => cases n <;> cases h
    | dT _ _ => cases n <;> cases h
  | non => exact dp_of (i := i) _ n _ h .non
  | bl b => exact dp_of (i := i) _ n _ h (.bl b)
  | int b => exact dp_of (i := i) _ n _ h (.int b)
  | str b => exact dp_of (i := i) _ n _ h (.str b)
  | tup h1 h2 h3 => exact dp_of (i := i) _ n _ h (.tup h1 h2 h3)
  | lst h1 h2 h3 => exact dp_of (i := i) _ n _ h (.lst h1 h2 h3)
  | fro h1 h2 => exact dp_of (i := i) _ n _ h (.fro h1 h2)
  | tuc h1 h2 => exact dp_of (i := i) _ n _ h (.tuc h1 h2)
def rEqP (K : PySem.W.Frag) : R2 := fun x y H Q => ∃ d e, Dp K H x d ∧ Dp K H y e ∧ pdl 60 d = true ∧ pdl 60 e = true ∧ Q (.bl (PyData.eqv d e)) H
def rNeP (K : PySem.W.Frag) : R2 := fun x y H Q => ∃ d e, Dp K H x d ∧ Dp K H y e ∧ pdl 60 d = true ∧ pdl 60 e = true ∧ Q (.bl (!PyData.eqv d e)) H
theorem op_eqP {X : Cx} (hu : X.A.units + 64 < cLine) : OpR X (compareOp .Eq) (rEqP X.K) := by
  intro pins s σ H x y v u Q I rx ry h
  obtain ⟨d, e, hd, he, pd, pe, q⟩ := h
  obtain ⟨as, r1⟩ := Dp.reads I d x v hd rx
  obtain ⟨bs, r2⟩ := Dp.reads I e y u he ry
  exact rc_deep 60 d e X.A s v u as bs r1 r2 pd pe (by omega) X.prog X.w X.xe _ ⟨.bl _, H, I, rfl, q⟩
theorem op_neP {X : Cx} (hu : X.A.units + 64 < cLine) : OpR X (compareOp .NotEq) (rNeP X.K) := by
  intro pins s σ H x y v u Q I rx ry h
  obtain ⟨d, e, hd, he, pd, pe, q⟩ := h
  obtain ⟨as, r1⟩ := Dp.reads I d x v hd rx
  obtain ⟨bs, r2⟩ := Dp.reads I e y u he ry
  exact ne_deep 60 d e X.A s v u as bs r1 r2 pd pe (by omega) X.prog X.w X.xe _ ⟨.bl _, H, I, rfl, q⟩
def aeq (a b : AV) : Bool := PyData.eqv (toD a) (toD b)
def gEq : AV → AV → AH → Res AV := fun a b M => if plain 60 (top M a) && plain 60 (top M b) then .ok (.bl (aeq (top M a) (top M b))) M else .stuck
def gNe : AV → AV → AH → Res AV := fun a b M => if plain 60 (top M a) && plain 60 (top M b) then .ok (.bl (!aeq (top M a) (top M b))) M else .stuck
theorem o_eq {C : Cm} : Op2 C (rEqP C.K) gEq := fun i M H x y a b Q W s ra rb p => by
  unfold gEq at p
  by_cases h : (plain 60 (top M a) && plain 60 (top M b)) = true
  · rw [if_pos h] at p
    rw [Bool.and_eq_true] at h
    exact ⟨_, _, dp_top s ra h.1, dp_top s rb h.2, pdl_of _ _ h.1, pdl_of _ _ h.2, p.now s (.bl _)⟩
  · rw [if_neg h] at p
    exact p.elim
theorem o_ne {C : Cm} : Op2 C (rNeP C.K) gNe := fun i M H x y a b Q W s ra rb p => by
  unfold gNe at p
  by_cases h : (plain 60 (top M a) && plain 60 (top M b)) = true
  · rw [if_pos h] at p
    rw [Bool.and_eq_true] at h
    exact ⟨_, _, dp_top s ra h.1, dp_top s rb h.2, pdl_of _ _ h.1, pdl_of _ _ h.2, p.now s (.bl _)⟩
  · rw [if_neg h] at p
    exact p.elim
end Mx

namespace Mx
open PySem L2
open Classical in
structure Src where
  items : List AV
  num : Option Nat
def Src.held (S : Src) (M : AH) : Prop := match S.num with
  | none => True
  | some n => M.objs[n]? = some (.lst S.items)
structure ItOk (C : Cm) (i : Ix) (H0 : Hp) (J : It) (S : Src) : Prop where
  go : ∀ k j M H, Ext i j H0 H → Sim C.K C.tb j M H → S.held M → k < S.items.length → J.go k H
  yld : ∀ k j M H x H' a, Ext i j H0 H → Sim C.K C.tb j M H → S.held M → S.items[k]? = some a → J.yld k H x H' → Ext j j H H' ∧ Sim C.K C.tb j M H' ∧ VR C.K j H' x a
  stop : ∀ k j M H, Ext i j H0 H → Sim C.K C.tb j M H → S.held M → S.items.length ≤ k → J.stop k H
def postI (C : Cm) (i : Ix) (H : Hp) (r : Res Src) (R : It → Hp → Prop) (W : XK) : Prop := match r with
  | .ok S M => ∀ J j H', Ext i j H H' → Sim C.K C.tb j M H' → ItOk C j H' J S → R J H'
  | .exc c fs M => ∀ cls d j H', Ext i j H H' → Sim C.K C.tb j M H' → XR C j H' cls d c fs → W cls d H'
  | .stuck => False
abbrev IM := Env → AH → Res Src
def tI (C : Cm) (W : WX) (m : IM) : TI := fun σ H R => ∃ i G M, Sim C.K C.tb i M H ∧ ER C.K i H σ G ∧ postI C i H (m G M) R (fun c d H' => W c d σ H')
theorem PI.imp {X : Cx} {tg e : Expr} {t t' : TI} (h : PI X tg e t) (f : ∀ σ H R, t' σ H R → t σ H R) : PI X tg e t' := ⟨fun pins s σ H R I q => h.run pins s σ H R I (f σ H R q)⟩
theorem PI.or {X : Cx} {tg e : Expr} {t t' : TI} (h : PI X tg e t) (h' : PI X tg e t') : PI X tg e (fun σ H R => t σ H R ∨ t' σ H R) := ⟨fun pins s σ H R I q => by
  rcases q with q | q
  · exact h.run pins s σ H R I q
  · exact h'.run pins s σ H R I q⟩
theorem postI.bind {α β : Type} {C : Cm} {R : Ix → Hp → β → α → Prop} {i : Ix} {H : Hp} {r : Res α} {f : α → AH → Res Src} {Q : It → Hp → Prop} {W : XK} (h : postI C i H (r.bind f) Q W) :
    post C R i H r (fun v H1 => ∃ j a M, Ext i j H H1 ∧ Sim C.K C.tb j M H1 ∧ R j H1 v a ∧ postI C j H1 (f a M) Q W) W := by
  cases r with
  | ok a M =>
    intro v j H' e s rr
    refine ⟨j, a, M, e, s, rr, ?_⟩
    have h' : postI C i H (f a M) Q W := h
    cases q : f a M with
    | ok b M' =>
      rw [q] at h'
      intro v' k H2 e2 s2 r2
      exact h' v' k H2 (e.trans e2) s2 r2
    | exc c fs M' =>
      rw [q] at h'
      intro cls d k H2 e2 s2 x2
      exact h' cls d k H2 (e.trans e2) s2 x2
    | stuck =>
      rw [q] at h'
      exact h'
  | exc c fs M => exact h
  | stuck => exact h
theorem tI.bind {α β : Type} {C : Cm} {W : WX} {R : Ix → Hp → β → α → Prop} {m : Env → AH → Res α} {f : Env → α → AH → Res Src} {σ : St} {H : Hp} {Q : It → Hp → Prop} (h : tI C W (fun G M => (m G M).bind (f G)) σ H Q) :
    tM C W R m σ H (fun v H1 => ∃ j G a M, Sim C.K C.tb j M H1 ∧ ER C.K j H1 σ G ∧ R j H1 v a ∧ postI C j H1 (f G a M) Q (fun c d H' => W c d σ H')) := by
  obtain ⟨i, G, M, s, r, p⟩ := h
  refine ⟨i, G, M, s, r, (postI.bind (R := R) p).imp (fun v H1 ⟨j, a, M', e, s', rr, p'⟩ => ?_) fun _ _ _ z => z⟩
  exact ⟨j, G, a, M', s', r.mono e, rr, p'⟩
theorem VRs.at {K : PySem.W.Frag} {i : Ix} {H : Hp} : ∀ {vs : List V} {as : List AV} {k : Nat} {a : AV}, VRs K i H vs as → as[k]? = some a → ∃ v, vs[k]? = some v ∧ VR K i H v a
  | _, _, _, _, .nil, e => by simp at e
  | _, _, 0, _, .cons h _, e => by
    have e' := Option.some.inj e
    subst e'
    exact ⟨_, rfl, h⟩
  | _, _, k + 1, a, .cons _ t, e => by
    obtain ⟨v, h1, h2⟩ := VRs.at (k := k) (a := a) t e
    exact ⟨v, h1, h2⟩
def seqOf (M : AH) : AV → Option Src
  | .tup xs => some ⟨xs, none⟩
  | .lst xs => some ⟨xs, none⟩
  | .fro xs => some ⟨xs, none⟩
  | .tuc xs => some ⟨xs, none⟩
  | .str x => some ⟨x.cps.toList.map fun c => .str ⟨#[c]⟩, none⟩
  | .ref n => match M.objs[n]? with
    | some (.lst xs) => some ⟨xs, some n⟩
    | _ => none
  | _ => none
def mSeq (m : EM) : IM := fun G M => (m G M).bind fun a M1 => match seqOf M1 a with
  | some S => .ok S M1
  | none => .stuck
section
variable {C : Cm} {i : Ix} {M : AH} {H : Hp}
theorem it_list {a : Addr} {xs : List V} {as : List AV} (q : ∀ j H', Ext i j H H' → SqL C.K H' a xs) (r : VRs C.K i H xs as)
    (inj : ∀ H' ys, SqL C.K H' a ys → SqL C.K H' a xs → True := fun _ _ _ _ => trivial) : ItOk C i H (Itl C.K a) ⟨as, none⟩ where
  go := fun k j M H' e _ _ hk => by
    have hk' : k < xs.length := by rw [r.len]; exact hk
    exact ⟨xs, xs[k], q j H' e, List.getElem?_eq_getElem hk'⟩
  yld := fun k j M H' x H2 a' e s _ ha y => by
    obtain ⟨e1, y⟩ := y
    subst e1
    obtain ⟨v, h1, h2⟩ := r.at ha
    have hx := y xs (q j _ e)
    rw [h1] at hx
    cases hx
    exact ⟨Ext.refl, s, h2.mono e⟩
  stop := fun k j M H' e _ _ hk => ⟨xs, q j H' e, by rw [r.len]; exact hk⟩
theorem it_tup {a : Addr} {xs : List V} {as : List AV} (q : ∀ j H', Ext i j H H' → SqT C.K H' a xs) (r : VRs C.K i H xs as) : ItOk C i H (Itt C.K a) ⟨as, none⟩ where
  go := fun k j M H' e _ _ hk => by
    have hk' : k < xs.length := by rw [r.len]; exact hk
    exact ⟨xs, xs[k], q j H' e, List.getElem?_eq_getElem hk'⟩
  yld := fun k j M H' x H2 a' e s _ ha y => by
    obtain ⟨e1, y⟩ := y
    subst e1
    obtain ⟨v, h1, h2⟩ := r.at ha
    have hx := y xs (q j _ e)
    rw [h1] at hx
    cases hx
    exact ⟨Ext.refl, s, h2.mono e⟩
  stop := fun k j M H' e _ _ hk => ⟨xs, q j H' e, by rw [r.len]; exact hk⟩
theorem it_str (x : Str) : ItOk C i H (Its x) ⟨x.cps.toList.map fun c => .str ⟨#[c]⟩, none⟩ where
  go := fun k j M H' e _ _ hk => by
    show k < x.cps.size
    simpa using hk
  yld := fun k j M H' v H2 a' e s _ ha y => by
    obtain ⟨e1, c, hc, ev⟩ := y
    subst e1 ev
    rw [List.getElem?_map] at ha
    have hc' : x.cps.toList[k]? = some c := by simpa using hc
    rw [hc'] at ha
    cases ha
    exact ⟨Ext.refl, s, .str _⟩
  stop := fun k j M H' e _ _ hk => by
    show x.cps.size ≤ k
    simpa using hk
theorem it_num {n : Nat} {a : Addr} {as : List AV} (hn : i.num[n]? = some a) : ItOk C i H (Itl C.K a) ⟨as, some n⟩ := by
  have key : ∀ j M H', Ext i j H H' → Sim C.K C.tb j M H' → M.objs[n]? = some (.lst as) → ∃ xs, H' a = some (.lst xs) ∧ VRs C.K j H' xs as := fun j M H' e s hm => by
    have ho := s.obj n a _ (e.get hn) hm
    cases ho with
    | lst h1 h2 => exact ⟨_, h1, h2⟩
  refine ⟨fun k j M H' e s hm hk => ?_, fun k j M H' x H2 a' e s hm ha y => ?_, fun k j M H' e s hm hk => ?_⟩
  · obtain ⟨xs, h1, h2⟩ := key j M H' e s hm
    have hk' : k < xs.length := by rw [h2.len]; exact hk
    exact ⟨xs, xs[k], SqL.of h1, List.getElem?_eq_getElem hk'⟩
  · obtain ⟨xs, h1, h2⟩ := key j M H' e s hm
    obtain ⟨e1, y⟩ := y
    subst e1
    obtain ⟨v, h3, h4⟩ := h2.at ha
    have hx := y xs (SqL.of h1)
    rw [h3] at hx
    cases hx
    exact ⟨Ext.refl, s, h4⟩
  · obtain ⟨xs, h1, h2⟩ := key j M H' e s hm
    exact ⟨xs, SqL.of h1, by rw [h2.len]; exact hk⟩
theorem kl_ext {a : Addr} {xs : List V} (h : (Rd H a (.lst xs) ∧ a ∉ i) ∨ KL C.K a xs) : ∀ j H', Ext i j H H' → SqL C.K H' a xs := fun j H' e => by
  rcases h with ⟨h, hn⟩ | h
  · exact .inl (e.rd hn h)
  · exact .inr h
end
theorem i_seq {X : Cx} {W : WX} {tg l : Expr} {m : EM} (h : PE X l (tE (cm X) W m)) : PI X tg l (tI (cm X) W (mSeq m)) :=
  PI.imp (PI.or (pi_list h) (PI.or (pi_tup h) (pi_str h))) fun σ H R hw => by
    obtain ⟨i, G, M, s, r, p⟩ := hw
    unfold mSeq at p
    cases e : m G M with
    | stuck =>
      rw [e] at p
      exact p.elim
    | exc c fs M1 =>
      rw [e] at p
      exact .inl ⟨i, G, M, s, r, by rw [e]; exact p⟩
    | ok a M1 =>
      rw [e] at p
      have p : postI (cm X) i H (match seqOf M1 a with | some S => Res.ok S M1 | none => Res.stuck) R (fun c d H' => W c d σ H') := p
      have fin : ∀ {Q : VK}, (∀ v j H', Ext i j H H' → Sim X.K (cm X).tb j M1 H' → VR X.K j H' v a → Q v H') → tE (cm X) W m σ H Q := fun {Q} k => ⟨i, G, M, s, r, by rw [e]; exact k⟩
      cases a with
      | tup as =>
        refine .inr (.inl (fin fun v j H' e1 s1 rv => ?_))
        cases rv with
        | tup h1 hn h2 => exact ⟨_, rfl, ⟨_, sq_of h1⟩, p _ j H' e1 s1 (it_tup (fun k H2 e2 => sq_of (e2.same hn h1)) h2)⟩
      | lst as =>
        refine .inl (fin fun v j H' e1 s1 rv => ?_)
        cases rv with
        | lst h1 hn h2 => exact ⟨_, rfl, ⟨_, SqL.of h1⟩, p _ j H' e1 s1 (it_list (fun k H2 e2 => SqL.of (e2.same hn h1)) h2)⟩
      | fro as =>
        refine .inl (fin fun v j H' e1 s1 rv => ?_)
        cases rv with
        | fro h1 h2 => exact ⟨_, rfl, ⟨_, sl_of h1⟩, p _ j H' e1 s1 (it_list (kl_ext h1) h2)⟩
      | tuc as =>
        refine .inr (.inl (fin fun v j H' e1 s1 rv => ?_))
        cases rv with
        | tuc h1 h2 => exact ⟨_, rfl, ⟨_, h1.sq⟩, p _ j H' e1 s1 (it_tup (fun k H2 e2 => (h1.mono e2).sq) h2)⟩
      | str x =>
        refine .inr (.inr (fin fun v j H' e1 s1 rv => ?_))
        cases rv
        exact ⟨x, rfl, p _ j H' e1 s1 (it_str x)⟩
      | ref n =>
        refine .inl (fin fun v j H' e1 s1 rv => ?_)
        cases rv with
        | @ref b _ hn =>
          obtain ⟨c, hc, ho⟩ := s1.get hn
          cases ho with
          | lst h1 h2 =>
            simp only [seqOf, hc] at p
            exact ⟨_, rfl, ⟨_, SqL.of h1⟩, p _ j H' e1 s1 (it_num hn)⟩
          | dK _ _ =>
            simp only [seqOf, hc] at p
            exact p.elim
          | dT _ _ =>
            simp only [seqOf, hc] at p
            exact p.elim
      | non => exact p.elim
      | bl _ => exact p.elim
      | int _ => exact p.elim
      | dK _ => exact p.elim
      | dT _ => exact p.elim
def rngItems (lo : Int) (n : Nat) : List AV := (List.range n).map fun (k : Nat) => .int (lo + (k : Int))
theorem it_rng {C : Cm} {i : Ix} {H : Hp} (lo : Int) (n : Nat) : ItOk C i H (Itr lo n) ⟨rngItems lo n, none⟩ where
  go := fun k j M H' e _ _ hk => by
    show k < n
    simpa [rngItems] using hk
  yld := fun k j M H' v H2 a' e s _ ha y => by
    obtain ⟨e1, ev⟩ := y
    subst e1 ev
    have hk : k < n := by
      have q := (List.getElem?_eq_some_iff.mp ha).1
      simpa [rngItems] using q
    simp only [rngItems, List.getElem?_map, List.getElem?_range hk, Option.map_some, Option.some.injEq] at ha
    subst ha
    exact ⟨Ext.refl, s, .int _⟩
  stop := fun k j M H' e _ _ hk => by
    show n ≤ k
    simpa [rngItems] using hk
def rngOk (i : Int) : Bool := decide (-(2 ^ 62) ≤ i) && decide (i < 2 ^ 62)
def gRng (as : List AV) (M : AH) : Res Src := match as with
  | [.int n] => if rngOk n then .ok ⟨rngItems 0 n.toNat, none⟩ M else .stuck
  | [.int a, .int b] => if rngOk a && rngOk b then .ok ⟨rngItems a (b - a).toNat, none⟩ M else .stuck
  | _ => .stuck
section
variable {X : Cx} {W : WX} {tg a b : Expr} {n : AM} {p pos : Pos}
theorem i_rng1 (hg : Gl X "range") (hm : X.mg "range" = none) (ha : PA X [a] (tA (cm X) W n)) (hs : starEach [a] X.env = [(false, eval a X.env)] := by rfl) : PI X tg (.Call (.Name "range" p) [a] [] pos) (tI (cm X) W (fun G M => (n G M).bind fun as M1 => match as with
    | [x] => gRng [x] M1
    | _ => .stuck)) :=
  PI.imp (pi_range1 hg hm ha hs) fun σ H R hw => by
    have h1 := tI.bind (R := RVs (cm X)) (m := n) (f := fun G as M1 => match as with | [x] => gRng [x] M1 | _ => Res.stuck) hw
    refine tM.imp h1 fun vs H1 ⟨j, G, as, M, s, r, rr, q⟩ => ?_
    cases rr with
    | nil => exact q.elim
    | cons r1 r2 =>
      cases r2 with
      | cons _ _ => exact q.elim
      | nil =>
        cases r1 with
        | int k =>
          by_cases hk : rngOk k = true
          · simp only [gRng, hk, if_true] at q
            have hk' := hk
            simp only [rngOk, Bool.and_eq_true, decide_eq_true_eq] at hk'
            exact ⟨k, rfl, hk'.1, hk'.2, q _ j H1 Ext.refl s (it_rng 0 _)⟩
          · simp only [gRng, if_neg hk] at q
            exact q.elim
        | _ => exact q.elim
end
end Mx

namespace Mx
open PySem L2
abbrev TMt := AV → Env → AH → Res Env
abbrev TMs := List AV → Env → AH → Res Env
def postG (C : Cm) (i : Ix) (H : Hp) (r : Res Env) (Q : St → Hp → Prop) : Prop := match r with
  | .ok G M => ∀ σ j H', Ext i j H H' → Sim C.K C.tb j M H' → ER C.K j H' σ G → Q σ H'
  | _ => False
def tG (C : Cm) (m : TMt) : TG := fun v σ H Q => ∃ i G M a, Sim C.K C.tb i M H ∧ ER C.K i H σ G ∧ VR C.K i H v a ∧ postG C i H (m a G M) Q
def tGs (C : Cm) (m : TMs) : TGs := fun vs σ H Q => ∃ i G M as, Sim C.K C.tb i M H ∧ ER C.K i H σ G ∧ VRs C.K i H vs as ∧ postG C i H (m as G M) Q
theorem PG.imp {X : Cx} {e : Expr} {t t' : TG} (h : PG X e t) (f : ∀ v σ H Q, t' v σ H Q → t v σ H Q) : PG X e t' := ⟨fun pins s σ H v u Q I r q => h.run pins s σ H v u Q I r (f v σ H Q q)⟩
theorem PGs.imp {X : Cx} {e : List Expr} {t t' : TGs} (h : PGs X e t) (f : ∀ v σ H Q, t' v σ H Q → t v σ H Q) : PGs X e t' := ⟨fun pins s σ H v u Q I r q => h.run pins s σ H v u Q I r (f v σ H Q q)⟩
theorem postG.bind {C : Cm} {i : Ix} {H : Hp} {r : Res Env} {f : Env → AH → Res Env} {Q : St → Hp → Prop} (h : postG C i H (r.bind f) Q) : postG C i H r (fun σ H1 => ∃ j G M, Ext i j H H1 ∧ Sim C.K C.tb j M H1 ∧ ER C.K j H1 σ G ∧ postG C j H1 (f G M) Q) := by
  cases r with
  | ok G M =>
    intro σ j H' e s r
    refine ⟨j, G, M, e, s, r, ?_⟩
    have h' : postG C i H (f G M) Q := h
    cases q : f G M with
    | ok b M' =>
      rw [q] at h'
      intro v' k H2 e2 s2 r2
      exact h' v' k H2 (e.trans e2) s2 r2
    | exc c fs M' =>
      rw [q] at h'
      exact h'.elim
    | stuck =>
      rw [q] at h'
      exact h'
  | exc c fs M => exact h
  | stuck => exact h
def gNm (n : Nat) : TMt := fun a G M => .ok (G.set n (some a)) M
def gsNil : TMs := fun as G M => match as with
  | [] => .ok G M
  | _ => .stuck
def gsCons (t : TMt) (u : TMs) : TMs := fun as G M => match as with
  | a :: r => (t a G M).bind fun G1 M1 => u r G1 M1
  | [] => .stuck
def gTp (n : Nat) (u : TMs) : TMt := fun a G M => match a with
  | .tup as => if as.length = n then u as G M else .stuck
  | _ => .stuck
def gLs (n : Nat) (u : TMs) : TMt := fun a G M => match seqOf M a, a with
  | some _, .tup _ => .stuck
  | some _, .tuc _ => .stuck
  | some _, .str _ => .stuck
  | some S, _ => if S.items.length = n then u S.items G M else .stuck
  | none, _ => .stuck
section
variable {X : Cx} {W : WX} {pos : Pos}
theorem g_name {n : Nat} {x : Str} (h : PG X (.Name x pos) (gName n)) : PG X (.Name x pos) (tG (cm X) (gNm n)) := PG.imp h fun v σ H Q ⟨i, G, M, a, s, r, rv, p⟩ => p _ i H Ext.refl s (r.set rv)
theorem gs_nil : PGs X [] (tGs (cm X) gsNil) := PGs.imp pgs_nil fun vs σ H Q ⟨i, G, M, as, s, r, rv, p⟩ => by
  cases rv with
  | nil => exact ⟨rfl, p _ i H Ext.refl s r⟩
  | cons _ _ => exact False.elim p
theorem gs_cons {e : Expr} {es : List Expr} {t : TMt} {u : TMs} (h1 : PG X e (tG (cm X) t)) (h2 : PGs X es (tGs (cm X) u))
    (hs : (assignEach (e :: es) X.env).map (·.2) = assign e X.env :: (assignEach es X.env).map (·.2) := by rfl) : PGs X (e :: es) (tGs (cm X) (gsCons t u)) := PGs.imp (pgs_cons h1 h2 hs) fun vs σ H Q ⟨i, G, M, as, s, r, rv, p⟩ => by
  cases rv with
  | nil => exact False.elim p
  | @cons v a vs' as' r1 r2 =>
    refine ⟨v, vs', rfl, i, G, M, a, s, r, r1, ?_⟩
    have p' := postG.bind p
    cases e : t a G M with
    | stuck =>
      rw [e] at p'
      exact p'
    | exc c fs M1 =>
      rw [e] at p'
      exact p'
    | ok G1 M1 =>
      rw [e] at p'
      intro σ1 j H1 e1 s1 rr1
      obtain ⟨k, G2, M2, e2, s2, r3, p2⟩ := p' σ1 j H1 e1 s1 rr1
      exact ⟨k, G2, M2, as', s2, r3, r2.mono e2, p2⟩
theorem g_tup {es : List Expr} {k : Nat} {u : TMs} {n : Nat} (hc : X.calm = true) (h : PGs X es (tGs (cm X) u)) (hn : (assignEach es X.env).length = n := by rfl) (hst : (assignEach es X.env).findIdx? (·.1) = none := by rfl) : PG X (.Tuple es k pos) (tG (cm X) (gTp n u)) :=
  PG.imp (pg_tup hc h hn hst) fun v σ H Q ⟨i, G, M, a, s, r, rv, p⟩ => by
    cases rv with
    | @tup _ _ as h1 _ h2 =>
      unfold gTp at p
      by_cases hl : as.length = n
      · simp only [hl, if_true] at p
        exact ⟨_, _, rfl, sq_of h1, by rw [h2.len]; exact hl, i, G, M, as, s, r, h2, p⟩
      · simp only [if_neg hl] at p
        exact False.elim p
    | _ => exact False.elim p
theorem g_lst {es : List Expr} {k : Nat} {u : TMs} {n : Nat} (hc : X.calm = true) (h : PGs X es (tGs (cm X) u)) (hn : (assignEach es X.env).length = n := by rfl) (hst : (assignEach es X.env).findIdx? (·.1) = none := by rfl) : PG X (.Tuple es k pos) (tG (cm X) (gLs n u)) :=
  PG.imp (pg_lst hc h hn hst) fun v σ H Q ⟨i, G, M, a, s, r, rv, p⟩ => by
    cases rv with
    | @lst _ _ as h1 hn h2 =>
      unfold gLs at p
      by_cases hl : as.length = n
      · simp only [seqOf, hl, if_true] at p
        exact ⟨_, _, rfl, SqL.of h1, by rw [h2.len]; exact hl, i, G, M, as, s, r, h2, p⟩
      · simp only [seqOf, if_neg hl] at p
        exact False.elim p
    | @fro _ _ as h1 h2 =>
      unfold gLs at p
      by_cases hl : as.length = n
      · simp only [seqOf, hl, if_true] at p
        exact ⟨_, _, rfl, sl_of h1, by rw [h2.len]; exact hl, i, G, M, as, s, r, h2, p⟩
      · simp only [seqOf, if_neg hl] at p
        exact False.elim p
    | ref hn =>
      obtain ⟨c, hc', ho⟩ := s.get hn
      unfold gLs at p
      cases ho with
      | @lst vs as h1 h2 =>
        by_cases hl : as.length = n
        · simp only [seqOf, hc', hl, if_true] at p
          exact ⟨_, _, rfl, SqL.of h1, by rw [h2.len]; exact hl, i, G, M, as, s, r, h2, p⟩
        · simp only [seqOf, hc', if_neg hl] at p
          exact False.elim p
      | dK _ _ =>
        simp only [seqOf, hc'] at p
        exact False.elim p
      | dT _ _ =>
        simp only [seqOf, hc'] at p
        exact False.elim p
    | tup _ _ _ => exact False.elim p
    | str _ => exact False.elim p
    | _ => exact False.elim p
end
inductive SR where
  | next (G : Env) (M : AH) | ret (a : AV) (M : AH) | brk (G : Env) (M : AH) | cnt (G : Env) (M : AH)
  | exc (c : Str) (fs : List (Str × AV)) (G : Env) (M : AH)
  | stuck
abbrev SM := Env → AH → SR
def spost (C : Cm) (W : WX) (i : Ix) (H : Hp) (r : SR) (D : Ends) : Prop := match r with
  | .next G M => ∀ σ j H', Ext i j H H' → Sim C.K C.tb j M H' → ER C.K j H' σ G → D.nx σ H'
  | .brk G M => ∀ σ j H', Ext i j H H' → Sim C.K C.tb j M H' → ER C.K j H' σ G → D.bk σ H'
  | .cnt G M => ∀ σ j H', Ext i j H H' → Sim C.K C.tb j M H' → ER C.K j H' σ G → D.ct σ H'
  | .ret a M => ∀ v j H', Ext i j H H' → Sim C.K C.tb j M H' → VR C.K j H' v a → D.rt v H'
  | .exc c fs G M => ∀ cls d σ j H', Ext i j H H' → Sim C.K C.tb j M H' → ER C.K j H' σ G → XR C j H' cls d c fs → W cls d σ H'
  | .stuck => False
def tS (C : Cm) (W : WX) (m : SM) : TS := fun D σ H => ∃ i G M, Sim C.K C.tb i M H ∧ ER C.K i H σ G ∧ spost C W i H (m G M) D
theorem spost.ext {C : Cm} {W : WX} {i j : Ix} {H H' : Hp} {r : SR} {D : Ends} (e : Ext i j H H') (h : spost C W i H r D) : spost C W j H' r D := by
  cases r with
  | next G M => exact fun σ k H2 e2 => h σ k H2 (e.trans e2)
  | brk G M => exact fun σ k H2 e2 => h σ k H2 (e.trans e2)
  | cnt G M => exact fun σ k H2 e2 => h σ k H2 (e.trans e2)
  | ret G M => exact fun σ k H2 e2 => h σ k H2 (e.trans e2)
  | exc c fs G M => exact fun cls d σ k H2 e2 => h cls d σ k H2 (e.trans e2)
  | stuck => exact h
def Res.st {α : Type} (r : Res α) (G : Env) (f : α → AH → SR) : SR := match r with
  | .ok a M => f a M
  | .exc c fs M => .exc c fs G M
  | .stuck => .stuck
@[simp] theorem Res.st_ok {α : Type} (a : α) (M : AH) (G : Env) (f : α → AH → SR) : (Res.ok a M).st G f = f a M := rfl
@[simp] theorem Res.st_exc {α : Type} (c : Str) (fs : List (Str × AV)) (M : AH) (G : Env) (f : α → AH → SR) : (Res.exc c fs M : Res α).st G f = .exc c fs G M := rfl
@[simp] theorem Res.st_stuck {α : Type} (G : Env) (f : α → AH → SR) : (Res.stuck : Res α).st G f = .stuck := rfl
theorem tS.st {α β : Type} {C : Cm} {W : WX} {R : Ix → Hp → β → α → Prop} {m : Env → AH → Res α} {f : Env → α → AH → SR} {σ : St} {H : Hp} {D : Ends} (h : tS C W (fun G M => (m G M).st G (f G)) D σ H) :
    tM C W R m σ H (fun v H1 => ∃ j G a M, Sim C.K C.tb j M H1 ∧ ER C.K j H1 σ G ∧ R j H1 v a ∧ spost C W j H1 (f G a M) D) := by
  obtain ⟨i, G, M, s, r, p⟩ := h
  refine ⟨i, G, M, s, r, ?_⟩
  have p : spost C W i H ((m G M).st G (f G)) D := p
  cases e : m G M with
  | ok a M1 =>
    rw [e] at p
    intro v j H' e1 s1 rr
    exact ⟨j, G, a, M1, s1, r.mono e1, rr, spost.ext e1 p⟩
  | exc c fs M1 =>
    rw [e] at p
    intro cls d j H' e1 s1 x
    exact p cls d σ j H' e1 s1 (r.mono e1) x
  | stuck =>
    rw [e] at p
    exact p
def mNext : SM := fun G M => .next G M
def mBrk : SM := fun G M => .brk G M
def mCnt : SM := fun G M => .cnt G M
def SR.seq (r : SR) (n : SM) : SR := match r with
  | .next G M => n G M
  | r => r
@[simp] theorem SR.seq_next (G : Env) (M : AH) (n : SM) : (SR.next G M).seq n = n G M := rfl
@[simp] theorem SR.seq_ret (a : AV) (M : AH) (n : SM) : (SR.ret a M).seq n = .ret a M := rfl
@[simp] theorem SR.seq_brk (G : Env) (M : AH) (n : SM) : (SR.brk G M).seq n = .brk G M := rfl
@[simp] theorem SR.seq_cnt (G : Env) (M : AH) (n : SM) : (SR.cnt G M).seq n = .cnt G M := rfl
@[simp] theorem SR.seq_exc (c : Str) (fs : List (Str × AV)) (G : Env) (M : AH) (n : SM) : (SR.exc c fs G M).seq n = .exc c fs G M := rfl
@[simp] theorem SR.seq_stuck (n : SM) : SR.stuck.seq n = .stuck := rfl
def mThen (m n : SM) : SM := fun G M => (m G M).seq n
def mExp (m : EM) : SM := fun G M => (m G M).st G fun _ M1 => .next G M1
def mRet (m : EM) : SM := fun G M => (m G M).st G fun a M1 => .ret a M1
def mRetN : SM := fun _ M => .ret .non M
def mIf (t : BM) (m n : SM) : SM := fun G M => (t G M).st G fun c M1 => if c = true then m G M1 else n G M1
def mSet (k : Nat) (m : EM) : SM := fun G M => (m G M).st G fun a M1 => .next (G.set k (some a)) M1
def mAsg (t : TMt) (m : EM) : SM := fun G M => (m G M).st G fun a M1 => match t a G M1 with
  | .ok G2 M2 => .next G2 M2
  | _ => .stuck
section
variable {X : Cx} {W : WX} {pos : Pos} {e : Expr} {st : Stmt} {rest : List Stmt} {m : EM} {n u : SM}
theorem ss_nil : PSs X [] (tS (cm X) W mNext) := PSs.imp pss_nil fun D σ H ⟨i, G, M, s, r, p⟩ => p σ i H Ext.refl s r
theorem ss_cons (h1 : PS X st (tS (cm X) W n)) (h2 : PSs X rest (tS (cm X) W u)) : PSs X (st :: rest) (tS (cm X) W (mThen n u)) := PSs.imp (pss_cons h1 h2) fun D σ H ⟨i, G, M, s, r, p⟩ => by
  refine ⟨i, G, M, s, r, ?_⟩
  unfold mThen at p
  cases e : n G M with
  | next G1 M1 =>
    rw [e] at p
    exact fun σ' j H' e1 s1 r1 => ⟨j, G1, M1, s1, r1, spost.ext e1 p⟩
  | ret a M1 => rw [e] at p; exact p
  | brk G1 M1 => rw [e] at p; exact p
  | cnt G1 M1 => rw [e] at p; exact p
  | exc c fs G1 M1 => rw [e] at p; exact p
  | stuck => rw [e] at p; exact p
theorem ss_one (h1 : PS X st (tS (cm X) W n)) : PSs X [st] (tS (cm X) W n) := pss_one h1
theorem s_expr (he : PE X e (tE (cm X) W m)) (hs : swapsWith e none pos.line X.env = pure false := by rfl) : PS X (.Expr e pos) (tS (cm X) W (mExp m)) := PS.imp (ps_expr he hs) fun D σ H h => by
  have h1 := tS.st (R := RV (cm X)) (m := m) (f := fun G a M1 => .next G M1) h
  exact tM.imp h1 fun v H1 ⟨j, G, a, M, s, r, rr, p⟩ => p σ j H1 Ext.refl s r
theorem s_ret (he : PE X e (tE (cm X) W m)) : PS X (.Return (some e) pos) (tS (cm X) W (mRet m)) := PS.imp (ps_ret he) fun D σ H h => by
  have h1 := tS.st (R := RV (cm X)) (m := m) (f := fun G a M1 => .ret a M1) h
  exact tM.imp h1 fun v H1 ⟨j, G, a, M, s, r, rr, p⟩ => p v j H1 Ext.refl s rr
theorem s_if {c : Expr} {a b : List Stmt} {t : BM} (hc : PT X c (tB' (cm X) W t)) (ha : PSs X a (tS (cm X) W n)) (hb : PSs X b (tS (cm X) W u)) : PS X (.If c a b pos) (tS (cm X) W (mIf t n u)) := PS.imp (ps_if hc ha hb) fun D σ H h => by
  have h1 := tS.st (R := RB) (m := t) (f := fun G c M1 => if c = true then n G M1 else u G M1) h
  refine tM.imp h1 fun v H1 ⟨j, G, a, M, s, r, rr, p⟩ => ?_
  cases rr
  cases v with
  | true => exact ⟨j, G, M, s, r, p⟩
  | false => exact ⟨j, G, M, s, r, p⟩
theorem s_set {k : Nat} {x : Str} {p' : Pos} (h : ∀ {te : TE}, PE X e te → PS X (.Assign [.Name x p'] e pos) (tAsg te (gName k))) (he : PE X e (tE (cm X) W m)) : PS X (.Assign [.Name x p'] e pos) (tS (cm X) W (mSet k m)) := PS.imp (h he) fun D σ H h => by
  have h1 := tS.st (R := RV (cm X)) (m := m) (f := fun G a M1 => .next (G.set k (some a)) M1) h
  exact tM.imp h1 fun v H1 ⟨j, G, a, M, s, r, rr, p⟩ => p _ j H1 Ext.refl s (r.set rr)
theorem s_asg {tg : Expr} {t : TMt} (he : PE X e (tE (cm X) W m)) (hg : PG X tg (tG (cm X) t)) (hs : swapsWithSole [tg] e pos.line X.env = pure false := by rfl) (hw : swappedStores [tg] e X.env = pure none := by rfl)
    (h1 : (assignEach [tg] X.env).map (·.2) = [assign tg X.env] := by rfl) : PS X (.Assign [tg] e pos) (tS (cm X) W (mAsg t m)) := PS.imp (ps_asg he hg hs hw h1) fun D σ H h => by
  have h1 := tS.st (R := RV (cm X)) (m := m) (f := fun G a M1 => match t a G M1 with | .ok G2 M2 => .next G2 M2 | _ => .stuck) h
  refine tM.imp h1 fun v H1 ⟨j, G, a, M, s, r, rr, p⟩ => ⟨j, G, M, a, s, r, rr, ?_⟩
  cases e : t a G M with
  | ok G2 M2 =>
    rw [e] at p
    exact p
  | exc c fs M2 =>
    rw [e] at p
    exact False.elim p
  | stuck =>
    rw [e] at p
    exact False.elim p
end
open Classical in
noncomputable def loop (S : Src) (t : TMt) (body : SM) : List AV → SM
  | [], G, M => if S.held M then .next G M else .stuck
  | a :: r, G, M => if S.held M then (match t a G M with
    | .ok G1 M1 => (match body G1 M1 with
      | .next G2 M2 => loop S t body r G2 M2
      | .cnt G2 M2 => loop S t body r G2 M2
      | .brk G2 M2 => .next G2 M2
      | r => r)
    | _ => .stuck) else .stuck
noncomputable def mFor (ms : IM) (t : TMt) (body : SM) : SM := fun G M => match ms G M with
  | .ok S M1 => loop S t body S.items G M1
  | .exc c fs M1 => .exc c fs G M1
  | .stuck => .stuck
section
variable {X : Cx} {W : WX} {pos : Pos}
theorem for_loop {C : Cm} {S : Src} {t : TMt} {body : SM} {tb : TS} {J : It} {D : Ends} {i0 : Ix} {H0 : Hp} (hb : ∀ D σ H, tS C W body D σ H → tb D σ H) (ok : ItOk C i0 H0 J S) :
    ∀ (k m : Nat) (σ : St) (H : Hp), (m = S.items.length - k ∧ k ≤ S.items.length ∧ ∃ i G M, Ext i0 i H0 H ∧ Sim C.K C.tb i M H ∧ ER C.K i H σ G ∧ spost C W i H (loop S t body (S.items.drop k) G M) D) →
      (J.stop k H ∧ D.nx σ H) ∨ (J.go k H ∧ ∃ N : St → Hp → Prop, (∀ σ' H', N σ' H' → ∃ m', m' < m ∧ (m' = S.items.length - (k + 1) ∧ k + 1 ≤ S.items.length ∧ ∃ i G M, Ext i0 i H0 H' ∧ Sim C.K C.tb i M H' ∧ ER C.K i H' σ' G ∧ spost C W i H' (loop S t body (S.items.drop (k + 1)) G M) D)) ∧
        ∀ x H', J.yld k H x H' → tG C t x σ H' fun σ2 H2 => tb { D with nx := N, ct := N, bk := D.nx } σ2 H2) := by
  rintro k m σ H ⟨hm, hk, i, G, M, e0, s, r, p⟩
  by_cases hlt : k < S.items.length
  · right
    have hd : S.items.drop k = S.items[k] :: S.items.drop (k + 1) := (List.getElem_cons_drop hlt).symm
    rw [hd] at p
    unfold loop at p
    by_cases hh : S.held M
    · rw [if_pos hh] at p
      refine ⟨ok.go k i M H e0 s hh hlt, fun σ' H' => ∃ i G M, Ext i0 i H0 H' ∧ Sim C.K C.tb i M H' ∧ ER C.K i H' σ' G ∧ spost C W i H' (loop S t body (S.items.drop (k + 1)) G M) D, fun σ' H' n => ⟨S.items.length - (k + 1), by omega, rfl, hlt, n⟩, fun x H' y => ?_⟩
      obtain ⟨e1, s1, rv⟩ := ok.yld k i M H x H' S.items[k] e0 s hh (List.getElem?_eq_getElem hlt) y
      refine ⟨i, G, M, S.items[k], s1, r.mono e1, rv, ?_⟩
      cases et : t S.items[k] G M with
      | stuck =>
        simp only [et] at p
        exact p
      | exc c fs M1 =>
        simp only [et] at p
        exact p
      | ok G1 M1 =>
        simp only [et] at p
        intro σ2 j H2 e2 s2 r2
        refine hb _ σ2 H2 ⟨j, G1, M1, s2, r2, ?_⟩
        have ee : Ext i j H H2 := e1.trans e2
        cases eb : body G1 M1 with
        | next G2 M2 =>
          rw [eb] at p
          exact fun σ3 l H3 e3 s3 r3 => ⟨l, G2, M2, (e0.trans ee).trans e3, s3, r3, spost.ext (ee.trans e3) p⟩
        | cnt G2 M2 =>
          rw [eb] at p
          exact fun σ3 l H3 e3 s3 r3 => ⟨l, G2, M2, (e0.trans ee).trans e3, s3, r3, spost.ext (ee.trans e3) p⟩
        | brk G2 M2 =>
          rw [eb] at p
          exact fun σ3 l H3 e3 s3 r3 => p σ3 l H3 (ee.trans e3) s3 r3
        | ret a M2 =>
          rw [eb] at p
          exact fun v l H3 e3 => p v l H3 (ee.trans e3)
        | exc c fs G2 M2 =>
          rw [eb] at p
          exact fun cls d σ3 l H3 e3 => p cls d σ3 l H3 (ee.trans e3)
        | stuck =>
          rw [eb] at p
          exact p
    · rw [if_neg hh] at p
      exact False.elim p
  · left
    have he : S.items.drop k = [] := List.drop_eq_nil_of_le (by omega)
    rw [he] at p
    unfold loop at p
    by_cases hh : S.held M
    · rw [if_pos hh] at p
      exact ⟨ok.stop k i M H e0 s hh (by omega), p σ i H Ext.refl s r⟩
    · rw [if_neg hh] at p
      exact False.elim p
theorem s_for {tg iter : Expr} {body : List Stmt} {ms : IM} {t : TMt} {b : SM} (hp : PassesOwn (model X.prog X.w) X.A X.env X.xe) (hc : X.calm = true) (hi : PI X tg iter (tI (cm X) W ms)) (hg : PG X tg (tG (cm X) t)) (hb : PSs X body (tS (cm X) W b))
    (hs : ∀ x, foldedSetIterable iter X.env x = pure x := by intro _; rfl) : PS X (.For tg iter body [] pos) (tS (cm X) W (mFor ms t b)) := PS.imp (ps_for hp hc hi hg hb hs) fun D σ H ⟨i, G, M, s, r, p⟩ => by
  refine ⟨i, G, M, s, r, ?_⟩
  unfold mFor at p
  cases e : ms G M with
  | stuck =>
    rw [e] at p
    exact p
  | exc c fs M1 =>
    rw [e] at p
    exact fun cls d j H' e1 s1 x1 => p cls d σ j H' e1 s1 (r.mono e1) x1
  | ok S M1 =>
    rw [e] at p
    intro J j H' e1 s1 ok
    refine ⟨fun k m σ H => m = S.items.length - k ∧ k ≤ S.items.length ∧ ∃ i G M, Ext j i H' H ∧ Sim X.K (cm X).tb i M H ∧ ER X.K i H σ G ∧ spost (cm X) W i H (loop S t b (S.items.drop k) G M) D, ⟨S.items.length, by omega, Nat.zero_le _, j, G, M1, Ext.refl, s1, r.mono e1, spost.ext e1 p⟩, ?_⟩
    exact fun k m σ H hw => for_loop (fun D σ H h => h) ok k m σ H hw
end
end Mx

namespace Mx
open PySem L2
def postGx (C : Cm) (vs : List Nat) (σ : St) (i : Ix) (H : Hp) (r : Res Env) (Q : St → Hp → Prop) : Prop := match r with
  | .ok G M => ∀ σ' j H', Ext i j H H' → Sim C.K C.tb j M H' → ER C.K j H' σ' G → wipe σ' vs = wipe σ vs → Q σ' H'
  | _ => False
def tGx (C : Cm) (vs : List Nat) (m : TMt) : TG := fun v σ H Q => ∃ i G M a, Sim C.K C.tb i M H ∧ ER C.K i H σ G ∧ VR C.K i H v a ∧ postGx C vs σ i H (m a G M) Q
theorem wipe_set {n : Nat} {o : Option V} : ∀ {vs : List Nat} {σ : St}, wipe (σ.set n o) vs = if n ∈ vs then wipe σ vs else (wipe σ vs).set n o
  | [], σ => by simp [wipe]
  | v :: vs, σ => by
    unfold wipe
    rw [wipe_set (vs := vs)]
    by_cases h : n ∈ vs
    · rw [if_pos h, if_pos (List.mem_cons_of_mem _ h)]
    · rw [if_neg h]
      by_cases e : n = v
      · subst e
        rw [if_pos List.mem_cons_self, List.set_set]
      · rw [if_neg (by simp [e, h]), List.set_comm _ _ e]
section
variable {X : Cx} {pos : Pos} {vs : List Nat}
theorem gx_name {n : Nat} {x : Str} (h : PG X (.Name x pos) (gName n)) (hm : n ∈ vs := by decide) : PG X (.Name x pos) (tGx (cm X) vs (gNm n)) := PG.imp h fun v σ H Q ⟨i, G, M, a, s, r, rv, p⟩ => p _ i H Ext.refl s (r.set rv) (by rw [wipe_set, if_pos hm])
theorem ts_nil : PTs X [] (tB' (cm X) (fun _ _ _ _ => False) (fun _ M => .ok true M)) := ⟨fun pins s σ H Q I ⟨i, G, M, s', r, p⟩ => pts_nil.run pins s σ H Q I (p.now s' rfl)⟩
theorem ts_one {c : Expr} {t : BM} (h : PT X c (tB' (cm X) (fun _ _ _ _ => False) t)) : PTs X [c] (tB' (cm X) (fun _ _ _ _ => False) t) := pts_one h
end
abbrev W0 : WX := fun _ _ _ _ => False
def wipeG (G : Env) : List Nat → Env
  | [] => G
  | v :: vs => (wipeG G vs).set v none
theorem ER.wipe {K : PySem.W.Frag} {i : Ix} {H : Hp} {σ : St} {G : Env} (r : ER K i H σ G) : ∀ vs : List Nat, ER K i H (L2.wipe σ vs) (wipeG G vs)
  | [] => r
  | v :: vs => (ER.wipe r vs).drop
open Classical in
noncomputable def lcl (S : Src) (t : TMt) (c : BM) (el : EM) (G : Env) : List AV → List AV → AH → Res (List AV)
  | [], acc, M => if S.held M then .ok acc M else .stuck
  | a :: r, acc, M => if S.held M then (match t a G M with
    | .ok G1 M1 => (match c G1 M1 with
      | .ok b M2 => if b = true then (match el G1 M2 with
        | .ok y M3 => sized (acc.length + 1) (lcl S t c el G r (acc ++ [y]) M3)
        | _ => .stuck) else lcl S t c el G r acc M2
      | _ => .stuck)
    | _ => .stuck) else .stuck
noncomputable def mLc (vs : List Nat) (ms : IM) (t : TMt) (c : BM) (el : EM) : AM := fun G M => match ms G M with
  | .ok S M1 => lcl S t c el (wipeG G vs) S.items [] M1
  | .exc d fs M1 => .exc d fs M1
  | .stuck => .stuck
theorem VRs.snoc {K : PySem.W.Frag} {i : Ix} {H : Hp} {v : V} {a : AV} (h : VR K i H v a) : ∀ {us : List V} {as : List AV}, VRs K i H us as → VRs K i H (us ++ [v]) (as ++ [a])
  | _, _, .nil => .cons h .nil
  | _, _, .cons q t => .cons q (VRs.snoc h t)
section
variable {C : Cm} {S : Src} {t : TMt} {c : BM} {el : EM} {J : It} {vs : List Nat} {σ : St} {G : Env} {i : Ix} {H1 : Hp} {D : Addr}
structure LcAt (C : Cm) (i : Ix) (H1 : Hp) (D : Addr) (σ : St) (G : Env) (acc : List AV) (M : AH) (H : Hp) (j : Ix) : Prop where
  ext : Ext i j H1 H
  sim : Sim C.K C.tb j M H
  er : ER C.K j H σ G
  prv : D ∈ j.prv
  at' : ∃ us, H D = some (.lst us) ∧ VRs C.K j H us acc
theorem LcAt.snoc {acc : List AV} {M M' : AH} {H H' : Hp} {j k : Ix} {v : V} {a : AV} (h : LcAt C i H1 D σ G acc M H j) (hn : H1 D = none) (e : Ext j k H H') (s : Sim C.K C.tb k M' H') (rv : VR C.K k H' v a) : ∃ us, H' D = some (.lst us) ∧ us.length = acc.length ∧ LcAt C i H1 D σ G (acc ++ [a]) M' (upd H' D (.lst (us ++ [v]))) k := by
  obtain ⟨us, hd, r⟩ := h.at'
  have hD : D ∉ j.num := (h.sim.sep D h.prv).1
  have hp : D ∈ k.prv := e.prv D h.prv
  have ee : Ext i k H1 H' := h.ext.trans e
  have hD' : H' D = some (.lst us) := e.keep _ _ (fun _ z => by cases z) hD hd
  refine ⟨us, hD', r.len, ⟨ee.app, ee.prv, ee.hid, ee.new, fun a u hu hi ha => ?_, fun a o u ha => (by
    have ne : a ≠ D := fun z => by rw [z, hn] at ha; cases ha
    rw [upd_ne ne]
    exact ee.fro a o u ha), ee.tbe, fun t => tabs_upd (notb_of hD' (notb_lst _)) (ee.tbk t), fun a ps hi ha => tbg_upd (ee.tbg a ps hi ha)⟩, s.hmut hp, (h.er.mono e).carry (Carry.mutp hp), hp, us ++ [v], upd_same, ((r.mono e).snoc rv).carry (Carry.mutp hp)⟩
  have ne : a ≠ D := fun z => by rw [z, hn] at ha; cases ha
  rw [upd_ne ne]
  exact ee.keep a u hu hi ha
theorem LcAt.skip {acc : List AV} {M M' : AH} {H H' : Hp} {j k : Ix} (h : LcAt C i H1 D σ G acc M H j) (e : Ext j k H H') (s : Sim C.K C.tb k M' H') : LcAt C i H1 D σ G acc M' H' k := by
  obtain ⟨us, hd, r⟩ := h.at'
  have hD : D ∉ j.num := (h.sim.sep D h.prv).1
  exact ⟨h.ext.trans e, s, h.er.mono e, e.prv D h.prv, us, e.keep _ _ (fun _ z => by cases z) hD hd, r.mono e⟩
theorem lc_run {Q : List AV → AH → Prop} {tt : TT} {te : TE} {g : TG} {Qd : Hp → Prop} (ok : ItOk C i H1 J S) (hn : H1 D = none)
    (ht : ∀ σ H Q, tB' C W0 c σ H Q → tt σ H Q) (he : ∀ σ H Q, tE C W0 el σ H Q → te σ H Q) (hg : ∀ v σ H Q, tGx C vs t v σ H Q → g v σ H Q) (hw : wipe (wipe σ vs) vs = wipe σ vs)
    (hd : ∀ acc M H j, LcAt C i H1 D (wipe σ vs) G acc M H j → Q acc M → Qd H) :
    ∀ (k m : Nat) (H : Hp), (m = S.items.length - k ∧ k ≤ S.items.length ∧ ∃ j acc M, LcAt C i H1 D (wipe σ vs) G acc M H j ∧ (∃ r M', lcl S t c el G (S.items.drop k) acc M = .ok r M' ∧ Q r M')) →
      (J.stop k H ∧ Qd H) ∨ (J.go k H ∧ ∃ Nx : Hp → Prop, (∀ H', Nx H' → ∃ m', m' < m ∧ (m' = S.items.length - (k + 1) ∧ k + 1 ≤ S.items.length ∧ ∃ j acc M, LcAt C i H1 D (wipe σ vs) G acc M H' j ∧ (∃ r M', lcl S t c el G (S.items.drop (k + 1)) acc M = .ok r M' ∧ Q r M'))) ∧
        ∀ x H', J.yld k H x H' → g x (wipe σ vs) H' fun σ2 H2 => wipe σ2 vs = wipe σ vs ∧ tt σ2 H2 fun b H3 =>
          if b = true then te σ2 H3 fun y H4 => ∃ acc, H4 D = some (.lst acc) ∧ acc.length < sizeLine ∧ Nx (upd H4 D (.lst (acc ++ [y]))) else Nx H3) := by
  rintro k m H ⟨hm, hk, j, acc, M, A, r, M', hr, hq⟩
  by_cases hlt : k < S.items.length
  · right
    have hdr : S.items.drop k = S.items[k] :: S.items.drop (k + 1) := (List.getElem_cons_drop hlt).symm
    rw [hdr] at hr
    unfold lcl at hr
    by_cases hh : S.held M
    · rw [if_pos hh] at hr
      refine ⟨ok.go k j M H A.ext A.sim hh hlt, fun H' => ∃ j acc M, LcAt C i H1 D (wipe σ vs) G acc M H' j ∧ (∃ r M', lcl S t c el G (S.items.drop (k + 1)) acc M = .ok r M' ∧ Q r M'), fun H' n => ⟨S.items.length - (k + 1), by omega, rfl, hlt, n⟩, fun x H' y => ?_⟩
      obtain ⟨e1, s1, rv⟩ := ok.yld k j M H x H' S.items[k] A.ext A.sim hh (List.getElem?_eq_getElem hlt) y
      refine hg _ _ _ _ ⟨j, G, M, S.items[k], s1, A.er.mono e1, rv, ?_⟩
      cases et : t S.items[k] G M with
      | stuck => simp only [et] at hr; cases hr
      | exc c fs M1 => simp only [et] at hr; cases hr
      | ok G1 M1 =>
        simp only [et] at hr
        intro σ2 j2 H2 e2 s2 r2 w2
        refine ⟨by rw [w2, hw], ht _ _ _ ⟨j2, G1, M1, s2, r2, ?_⟩⟩
        cases ec : c G1 M1 with
        | stuck => rw [ec] at hr; cases hr
        | exc c fs M2 => rw [ec] at hr; cases hr
        | ok b M2 =>
          rw [ec] at hr
          intro b' j3 H3 e3 s3 rb
          have rb' : b' = b := rb
          subst rb'
          have e123 : Ext j j3 H H3 := (e1.trans e2).trans e3
          cases b' with
          | false =>
            simp only [Bool.false_eq_true, if_false] at hr ⊢
            exact ⟨j3, acc, M2, A.skip e123 s3, r, M', hr, hq⟩
          | true =>
            simp only [if_true] at hr ⊢
            refine he _ _ _ ⟨j3, G1, M2, s3, r2.mono e3, ?_⟩
            cases ee : el G1 M2 with
            | stuck => rw [ee] at hr; cases hr
            | exc c fs M3 => rw [ee] at hr; cases hr
            | ok a M3 =>
              rw [ee] at hr
              intro v j4 H4 e4 s4 rv4
              have hr : sized (acc.length + 1) (lcl S t c el G (S.items.drop (k + 1)) (acc ++ [a]) M3) = .ok r M' := hr
              by_cases hz : acc.length + 1 ≤ 16777216
              · rw [sized_ok hz] at hr
                obtain ⟨us, h1, h2, h3⟩ := A.snoc hn (e123.trans e4) s4 rv4
                exact ⟨us, h1, by rw [h2, sizeLine_eq]; omega, j4, acc ++ [a], M3, h3, r, M', hr, hq⟩
              · have e0 : sized (acc.length + 1) (lcl S t c el G (S.items.drop (k + 1)) (acc ++ [a]) M3) = .stuck := if_neg hz
                rw [e0] at hr
                cases hr
    · rw [if_neg hh] at hr
      cases hr
  · left
    have he' : S.items.drop k = [] := List.drop_eq_nil_of_le (by omega)
    rw [he'] at hr
    unfold lcl at hr
    by_cases hh : S.held M
    · rw [if_pos hh] at hr
      cases hr
      exact ⟨ok.stop k j M H A.ext A.sim hh (by omega), hd acc M H j A hq⟩
    · rw [if_neg hh] at hr
      cases hr
end
theorem wipe_in {vs : List Nat} {σ : St} {v : Nat} (h : v ∈ vs) : (wipe σ vs).set v none = wipe σ vs := by
  induction vs with
  | nil => cases h
  | cons u us ih =>
    unfold wipe
    by_cases e : v = u
    · subst e
      rw [List.set_set]
    · rw [List.set_comm _ _ (Ne.symm e)]
      rcases List.mem_cons.mp h with z | z
      · exact absurd z e
      · rw [ih z]
theorem wipe_sub {σ : St} : ∀ {us vs : List Nat}, (∀ v ∈ us, v ∈ vs) → wipe (wipe σ vs) us = wipe σ vs
  | [], _, _ => rfl
  | u :: us, vs, h => by
    show (wipe (wipe σ vs) us).set u none = wipe σ vs
    rw [wipe_sub fun v hv => h v (List.mem_cons_of_mem _ hv)]
    exact wipe_in (h u List.mem_cons_self)
theorem wipe_wipe {σ : St} {vs : List Nat} : wipe (wipe σ vs) vs = wipe σ vs := wipe_sub fun _ h => h
def mLcV (m : AM) : EM := fun G M => (m G M).bind fun as M1 => .ok (.lst as) M1
def mLcR (m : AM) : EM := fun G M => (m G M).bind fun as M1 => .ok (.ref M1.objs.length) ⟨M1.objs ++ [.lst as], M1.fz⟩
theorem LcAt.val {C : Cm} {i : Ix} {H0 H1 : Hp} {D : Addr} {σ : St} {G : Env} {acc : List AV} {M : AH} {H : Hp} {j : Ix} (h : LcAt C i H1 D σ G acc M H j) (hs : ∀ a, a ∈ i.prv → H1 a ≠ none) (hn : H1 D = none) : Ext i (j.show D) H1 H ∧ Sim C.K C.tb (j.show D) M H ∧ VR C.K (j.show D) H (.ref D) (.lst acc) := by
  obtain ⟨us, hd, r⟩ := h.at'
  refine ⟨⟨h.ext.app, fun a ha => ?_, fun a ha hi => h.ext.hid a (List.mem_filter.mp ha).1 hi, h.ext.new, h.ext.keep, h.ext.fro, h.ext.tbe, h.ext.tbk, h.ext.tbg⟩, h.sim.show, .lst hd (fun z => ?_) (r.carry Carry.show)⟩
  · refine List.mem_filter.mpr ⟨h.ext.prv a ha, decide_eq_true fun z => hs a ha (z ▸ hn)⟩
  · rcases z with z | z
    · exact (h.sim.sep D h.prv).1 z
    · exact (of_decide_eq_true (List.mem_filter.mp z).2) rfl
theorem LcAt.num {C : Cm} {i : Ix} {H1 : Hp} {D : Addr} {σ : St} {G : Env} {acc : List AV} {M : AH} {H : Hp} {j : Ix} (h : LcAt C i H1 D σ G acc M H j) (hs : ∀ a, a ∈ i.prv → H1 a ≠ none) (hn : H1 D = none) : Ext i ((j.show D).push D) H1 H ∧ Sim C.K C.tb ((j.show D).push D) ⟨M.objs ++ [.lst acc], M.fz⟩ H ∧ VR C.K ((j.show D).push D) H (.ref D) (.ref M.objs.length) := by
  obtain ⟨us, hd, r⟩ := h.at'
  have hD := (h.sim.sep D h.prv).1
  have hprv : ∀ a, a ∈ (j.show D).prv → a ≠ D := fun a ha => of_decide_eq_true (List.mem_filter.mp ha).2
  have ca : Carry j ((j.show D).push D) H H := ⟨fun n a e => by
    show (j.num ++ [D])[n]? = some a
    rw [List.getElem?_append_left (List.getElem?_eq_some_iff.mp e).1]
    exact e, fun a u hn' e => ⟨e, fun z => by
      rcases z with z | z
      · rcases List.mem_append.mp z with z | z
        · exact hn' (.inl z)
        · rw [List.mem_singleton.mp z] at hn'
          exact hn' (.inr h.prv)
      · exact hn' (.inr (List.mem_filter.mp z).1)⟩⟩
  refine ⟨⟨?_, fun a ha => ?_, fun a ha hi => h.ext.hid a (List.mem_filter.mp ha).1 hi, fun a ha hi => ?_, h.ext.keep, h.ext.fro, h.ext.tbe, h.ext.tbk, h.ext.tbg⟩, ⟨?_, ?_, fun a ha => ⟨fun z => ?_, ?_⟩, fun n a c h1 h2 => ?_, fun a ha => h.sim.nt a (List.mem_filter.mp ha).1, fun n hn => (by
    obtain ⟨a, h1, o, u, h2⟩ := h.sim.fzl n hn
    refine ⟨a, ?_, o, u, h2⟩
    show (j.num ++ [D])[n]? = some a
    rw [List.getElem?_append_left (List.getElem?_eq_some_iff.mp h1).1]
    exact h1), h.sim.tbs, (fun a ha => h.sim.npv a (List.mem_filter.mp ha).1), h.sim.ht⟩, .ref ?_⟩
  · obtain ⟨l, q⟩ := h.ext.app
    exact ⟨l ++ [D], by show j.num ++ [D] = _; rw [q, List.append_assoc]⟩
  · exact List.mem_filter.mpr ⟨h.ext.prv a ha, decide_eq_true fun z => hs a ha (z ▸ hn)⟩
  · rcases List.mem_append.mp ha with z | z
    · exact h.ext.new a z hi
    · rw [List.mem_singleton.mp z]
      exact hn
  · show (j.num ++ [D]).length = (M.objs ++ [_]).length
    simp [h.sim.len]
  · show (j.num ++ [D]).Nodup
    rw [List.nodup_append]
    exact ⟨h.sim.nd, by simp, fun a ha b hb z => hD (by rw [List.mem_singleton.mp hb] at z; exact z ▸ ha)⟩
  · rcases List.mem_append.mp z with z | z
    · exact (h.sim.sep a (List.mem_filter.mp ha).1).1 z
    · exact hprv a ha (List.mem_singleton.mp z)
  · exact (h.sim.sep a (List.mem_filter.mp ha).1).2
  · have h1 : (j.num ++ [D])[n]? = some a := h1
    have h2 : (M.objs ++ [AV.lst acc])[n]? = some c := h2
    by_cases hl : n < j.num.length
    · rw [List.getElem?_append_left hl] at h1
      rw [List.getElem?_append_left (by rw [← h.sim.len]; exact hl)] at h2
      exact (h.sim.obj n a c h1 h2).carry ca rfl
    · have hl2 := (List.getElem?_eq_some_iff.mp h1).1
      simp only [List.length_append, List.length_cons, List.length_nil] at hl2
      have e : n = j.num.length := by omega
      subst e
      simp at h1
      rw [h.sim.len] at h2
      simp at h2
      subst h1 h2
      exact .lst hd (r.carry ca)
  · show (j.num ++ [D])[M.objs.length]? = some D
    rw [← h.sim.len]
    simp
section
variable {X : Cx} {W : WX} {pos : Pos}
theorem lcl_exc {S : Src} {t : TMt} {c : BM} {el : EM} {G : Env} {d : Str} {fs : List (Str × AV)} {M' : AH} : ∀ (l : List AV) (acc : List AV) (M : AH), lcl S t c el G l acc M ≠ .exc d fs M'
  | [], acc, M => by
    unfold lcl
    by_cases h : S.held M
    · rw [if_pos h]
      intro z
      cases z
    · rw [if_neg h]
      intro z
      cases z
  | a :: r, acc, M => by
    unfold lcl
    by_cases h : S.held M
    · rw [if_pos h]
      cases et : t a G M with
      | stuck => intro z; cases z
      | exc _ _ _ => intro z; cases z
      | ok G1 M1 =>
        simp only
        cases ec : c G1 M1 with
        | stuck => intro z; cases z
        | exc _ _ _ => intro z; cases z
        | ok b M2 =>
          simp only
          cases b with
          | false =>
            rw [if_neg (by decide)]
            exact lcl_exc r acc M2
          | true =>
            rw [if_pos rfl]
            cases ee : el G1 M2 with
            | stuck => intro z; cases z
            | exc _ _ _ => intro z; cases z
            | ok y M3 =>
              simp only
              unfold sized
              split
              · exact lcl_exc r _ M3
              · intro z
                cases z
    · rw [if_neg h]
      intro z
      cases z
theorem lc_read {C : Cm} {vs : List Nat} {ms : IM} {t : TMt} {c : BM} {el : EM} {σ : St} {H : Hp} {Q : VK} {i : Ix} {G : Env} {M : AH} (s : Sim C.K C.tb i M H) (r : ER C.K i H σ G)
    (hx : ∀ d fs M1, ms G M = .exc d fs M1 → ∀ cls d' j H', Ext i j H H' → Sim C.K C.tb j M1 H' → XR C j H' cls d' d fs → W cls d' σ H')
    (hk : ∃ S M1, ms G M = .ok S M1 ∧ ∃ as M2, lcl S t c el (wipeG G vs) S.items [] M1 = .ok as M2 ∧ ∀ D j H', (∃ i1 H1, Ext i i1 H H1 ∧ Sim C.K C.tb i1 M1 H1 ∧ H1 D = none ∧ LcAt C i1 H1 D (wipe σ vs) (wipeG G vs) as M2 H' j) → Q (.ref D) H') :
    tLc (tI C W ms) (tGx C vs t) (tB' C W0 c) (tE C W0 el) vs σ H Q := by
  obtain ⟨S, M1, e1, as, M2, e2, k⟩ := hk
  refine ⟨i, G, M, s, r, ?_⟩
  rw [e1]
  intro J j H' ee s1 ok D hD
  refine ⟨fun k m H2 => m = S.items.length - k ∧ k ≤ S.items.length ∧ ∃ jj acc M, LcAt C j H' D (wipe σ vs) (wipeG G vs) acc M H2 jj ∧ (∃ r M', lcl S t c el (wipeG G vs) (S.items.drop k) acc M = .ok r M' ∧ (r = as ∧ M' = M2)), ⟨S.items.length, by omega, Nat.zero_le _, ?_⟩, ?_⟩
  · refine ⟨j.hide D, [], M1, ⟨⟨⟨[], by simp [Ix.hide]⟩, fun a h => List.mem_cons_of_mem _ h, fun a ha hi => ?_, fun a h n => absurd h n, fun a u hu hi ha => ?_, fun a o u ha => (by
      have ne : a ≠ D := fun z => by rw [z, hD] at ha; cases ha
      rw [upd_ne ne]
      exact ha), rfl, fun t => tabs_upd (notb_none hD) t, fun a ps hi ha => tbg_upd (ne_no ha)⟩, s1.hide hD, ((r.mono ee).wipe vs).carry (Carry.hide hD), List.mem_cons_self, [], upd_same, .nil⟩, as, M2, e2, rfl, rfl⟩
    · rcases List.mem_cons.mp ha with z | z
      · rw [z]; exact hD
      · exact absurd (Or.inr z) hi
    · have ne : a ≠ D := fun z => by rw [z, hD] at ha; cases ha
      rw [upd_ne ne]
      exact ha
  · exact fun k' m H2 hw => lc_run (Q := fun r M' => r = as ∧ M' = M2) ok hD (fun _ _ _ h => h) (fun _ _ _ h => h) (fun _ _ _ _ h => h) wipe_wipe (fun acc M H3 jj A ⟨q1, q2⟩ => k D jj H3 ⟨j, H', ee, s1, hD, by rw [← q1, ← q2]; exact A⟩) k' m H2 hw
theorem lc_split {C : Cm} {vs : List Nat} {ms : IM} {t : TMt} {c : BM} {el : EM} {σ : St} {H : Hp} {Q : VK} {f : List AV → AH → Res AV} (h : tE C W (fun G M => (mLc vs ms t c el G M).bind f) σ H Q)
    (hf : ∀ (i : Ix) (H : Hp) (as : List AV) (M2 : AH) (D : Addr) (H' : Hp) (j i1 : Ix) (H1 : Hp) (M1 : AH) (G : Env), post C (RV C) i H (f as M2) Q (fun c d H' => W c d σ H') → Ext i i1 H H1 → Sim C.K C.tb i1 M1 H1 → H1 D = none → LcAt C i1 H1 D (wipe σ vs) G as M2 H' j → Q (.ref D) H') :
    tLc (tI C W ms) (tGx C vs t) (tB' C W0 c) (tE C W0 el) vs σ H Q := by
  obtain ⟨i, G, M, s, r, p⟩ := h
  simp only [mLc] at p
  cases e : ms G M with
  | stuck => rw [e] at p; exact False.elim p
  | exc d fs M1 =>
    refine ⟨i, G, M, s, r, ?_⟩
    rw [e] at p ⊢
    exact p
  | ok S M1 =>
    rw [e] at p
    cases e2 : lcl S t c el (wipeG G vs) S.items [] M1 with
    | stuck => simp only [e2] at p; exact False.elim p
    | exc d fs M2 => exact absurd e2 (lcl_exc _ _ _)
    | ok as M2 =>
      simp only [e2] at p
      exact lc_read s r (fun d fs M1 q => by rw [e] at q; cases q) ⟨S, M1, e, as, M2, e2, fun D j H' ⟨i1, H1, ee, s1, hD, A⟩ => hf i H as M2 D H' j i1 H1 M1 (wipeG G vs) p ee s1 hD A⟩
theorem lc_val {C : Cm} {vs : List Nat} {ms : IM} {t : TMt} {c : BM} {el : EM} {σ : St} {H : Hp} {Q : VK} (h : tE C W (mLcV (mLc vs ms t c el)) σ H Q) : tLc (tI C W ms) (tGx C vs t) (tB' C W0 c) (tE C W0 el) vs σ H Q :=
  lc_split h fun i H as M2 D H' j i1 H1 M1 G p ee s1 hD A => by
    obtain ⟨a1, a2, a3⟩ := A.val (H0 := H1) (fun a ha => (s1.sep a ha).2) hD
    exact p _ _ _ (ee.trans a1) a2 a3
section
variable {elt tg iter : Expr} {ifs : List Expr} {scope : Scope} {own : List (Str × Nat)} {ms : IM} {t : TMt} {c : BM} {el : EM}
abbrev LcHyp (X : Cx) (elt tg : Expr) (ifs : List Expr) (scope : Scope) (vs : List Nat) (t : TMt) (c : BM) (el : EM) : Prop :=
  ∀ (s : Shared) (H : Hp) (C : Addr) (cl : List (Str × Addr)) (fp : List Addr), PG (X.blk s H scope (compEnvC scope cl C X.env) fp) tg (tGx (cm X) vs t) ∧ PTs (X.blk s H scope (compEnvC scope cl C X.env) fp) ifs (tB' (cm X) W0 c) ∧ PE (X.blk s H scope (compEnvC scope cl C X.env) fp) elt (tE (cm X) W0 el)
theorem e_lc (hc : X.calm = true) (hN : X.N.Nodup) (hi : PI X tg iter (tI (cm X) W ms)) (ok : BlkOk X.N X.env.scope scope own) (hh : LcHyp X elt tg ifs scope (own.map (·.2)) t c el) (hs : ∀ x, foldedSetIterable iter X.env x = pure x := by intro _; rfl) :
    PE X (.ListComp elt [⟨tg, iter, ifs, 0⟩] scope pos) (tE (cm X) W (mLcV (mLc (own.map (·.2)) ms t c el))) :=
  PE.imp (pe_lc hc hN hi ok (fun s H C cl fp => (hh s H C cl fp).1) (fun s H C cl fp => (hh s H C cl fp).2.1) (fun s H C cl fp => (hh s H C cl fp).2.2) hs) fun σ H Q h => lc_val h
theorem s_setLc {k : Nat} {y : Str} {py spos : Pos} (hc : X.calm = true) (hN : X.N.Nodup) (hy : X.N[k]? = some y) (hyl : X.env.scope.names.lookup y = some .local)
    (hsw : swapsWith (.ListComp elt [⟨tg, iter, ifs, 0⟩] scope pos) (some (.Name y py)) spos.line X.env = pure true) (hi : PI X tg iter (tI (cm X) W ms)) (ok : BlkOk X.N X.env.scope scope own) (hh : LcHyp X elt tg ifs scope (own.map (·.2)) t c el) (hs : ∀ x, foldedSetIterable iter X.env x = pure x := by intro _; rfl) :
    PS X (.Assign [.Name y py] (.ListComp elt [⟨tg, iter, ifs, 0⟩] scope pos) spos) (tS (cm X) W (mSet k (mLcV (mLc (own.map (·.2)) ms t c el)))) :=
  PS.imp (ps_setLc hc hN hy hyl hsw hi ok (fun s H C cl fp => (hh s H C cl fp).1) (fun s H C cl fp => (hh s H C cl fp).2.1) (fun s H C cl fp => (hh s H C cl fp).2.2) hs) fun D σ H h => by
    have h1 := tS.st (R := RV (cm X)) (m := mLcV (mLc (own.map (·.2)) ms t c el)) (f := fun G a M1 => .next (G.set k (some a)) M1) h
    exact lc_val (tM.imp h1 fun v H1 ⟨j, G, a, M, s, r, rr, p⟩ => p _ j H1 Ext.refl s (r.set rr))
end
end
end Mx

namespace Mx
open PySem L2
mutual
def cl (n : Nat) : AV → Bool
  | .tup xs => cls n xs
  | .lst xs => cls n xs
  | .fro xs => cls n xs
  | .tuc xs => cls n xs
  | .dK kvs => clk n kvs
  | .dT kvs => clt n kvs
  | .ref k => decide (k < n)
  | .non => true
  | .bl _ => true
  | .int _ => true
  | .str _ => true
def cls (n : Nat) : List AV → Bool
  | [] => true
  | x :: xs => cl n x && cls n xs
def clk (n : Nat) : List (Key × AV) → Bool
  | [] => true
  | (_, x) :: xs => cl n x && clk n xs
def clt (n : Nat) : List (List Key × AV) → Bool
  | [] => true
  | (_, x) :: xs => cl n x && clt n xs
end
section
variable {K : PySem.W.Frag} {i : Ix} {H : Hp}
mutual
theorem VR.cl {n : Nat} (hn : i.num.length ≤ n) : ∀ (x : AV) (v : V), VR K i H v x → Mx.cl n x = true
  | .non, _, _ => by simp [Mx.cl]
  | .bl _, _, _ => by simp [Mx.cl]
  | .int _, _, _ => by simp [Mx.cl]
  | .str _, _, _ => by simp [Mx.cl]
  | .tup as, _, h => by
    cases h with
    | tup _ _ h2 => rw [Mx.cl]; exact VRs.cl hn as _ h2
  | .lst as, _, h => by
    cases h with
    | lst _ _ h2 => rw [Mx.cl]; exact VRs.cl hn as _ h2
  | .fro as, _, h => by
    cases h with
    | fro _ h2 => rw [Mx.cl]; exact VRs.cl hn as _ h2
  | .tuc as, _, h => by
    cases h with
    | tuc _ h2 => rw [Mx.cl]; exact VRs.cl hn as _ h2
  | .dK _, _, h => by cases h
  | .dT _, _, h => by cases h
  | .ref k, _, h => by
    cases h with
    | ref h1 =>
      rw [Mx.cl]
      exact decide_eq_true (Nat.lt_of_lt_of_le (List.getElem?_eq_some_iff.mp h1).1 hn)
theorem VRs.cl {n : Nat} (hn : i.num.length ≤ n) : ∀ (as : List AV) (vs : List V), VRs K i H vs as → Mx.cls n as = true
  | [], _, _ => by simp [Mx.cls]
  | a :: as, _, h => by
    cases h with
    | cons h1 h2 => rw [Mx.cls, VR.cl hn a _ h1, VRs.cl hn as _ h2]; rfl
end
theorem VRk.cl {n : Nat} (hn : i.num.length ≤ n) : ∀ (as : List (Key × AV)) (us : List (Key × V)), VRk K i H us as → Mx.clk n as = true
  | [], _, _ => by simp [Mx.clk]
  | (k, a) :: as, _, h => by
    cases h with
    | cons h1 h2 => rw [Mx.clk, h1.cl hn, VRk.cl hn as _ h2]; rfl
theorem VRt.cl {n : Nat} (hn : i.num.length ≤ n) : ∀ (as : List (List Key × AV)) (us : List (List Key × V)), VRt K i H us as → Mx.clt n as = true
  | [], _, _ => by simp [Mx.clt]
  | (k, a) :: as, _, h => by
    cases h with
    | cons h1 h2 => rw [Mx.clt, h1.cl hn, VRt.cl hn as _ h2]; rfl
theorem OR.cl {n : Nat} {a : Addr} {fr : Prop} {c : AV} (hn : i.num.length ≤ n) (h : OR K i H a fr c) : Mx.cl n c = true := by
  cases h with
  | lst _ h2 => rw [Mx.cl]; exact h2.cl hn
  | dK _ h2 => rw [Mx.cl]; exact h2.cl hn
  | dT _ h2 => rw [Mx.cl]; exact h2.cl hn
def Ix.cut (i : Ix) (n : Nat) : Ix := ⟨i.num.take n, i.prv, i.tab⟩
theorem Ix.not_cut {n : Nat} {a : Addr} (h : a ∉ i) : a ∉ i.cut n := fun z => by
  rcases z with z | z
  · exact h (.inl (List.mem_of_mem_take z))
  · exact h (.inr z)
mutual
theorem VR.cut {n : Nat} : ∀ (x : AV) (v : V), Mx.cl n x = true → VR K i H v x → VR K (i.cut n) H v x
  | .non, _, _, h => by cases h; exact .non
  | .bl b, _, _, h => by cases h; exact .bl b
  | .int b, _, _, h => by cases h; exact .int b
  | .str b, _, _, h => by cases h; exact .str b
  | .tup as, _, hc, h => by
    rw [Mx.cl] at hc
    cases h with
    | tup h1 hn h2 => exact .tup h1 (Ix.not_cut hn) (VRs.cut as _ hc h2)
  | .lst as, _, hc, h => by
    rw [Mx.cl] at hc
    cases h with
    | lst h1 hn h2 => exact .lst h1 (Ix.not_cut hn) (VRs.cut as _ hc h2)
  | .fro as, _, hc, h => by
    rw [Mx.cl] at hc
    cases h with
    | fro h1 h2 =>
      refine .fro ?_ (VRs.cut as _ hc h2)
      rcases h1 with h1 | h1
      · exact .inl ⟨h1.1, Ix.not_cut h1.2⟩
      · exact .inr h1
  | .tuc as, _, hc, h => by
    rw [Mx.cl] at hc
    cases h with
    | tuc h1 h2 =>
      refine .tuc ?_ (VRs.cut as _ hc h2)
      rcases h1 with h1 | h1
      · exact .inl ⟨h1.1, Ix.not_cut h1.2⟩
      · exact .inr h1
  | .dK _, _, _, h => by cases h
  | .dT _, _, _, h => by cases h
  | .ref k, _, hc, h => by
    rw [Mx.cl] at hc
    cases h with
    | ref h1 =>
      refine .ref ?_
      show (i.num.take n)[k]? = some _
      rw [List.getElem?_take, if_pos (of_decide_eq_true hc)]
      exact h1
theorem VRs.cut {n : Nat} : ∀ (as : List AV) (vs : List V), Mx.cls n as = true → VRs K i H vs as → VRs K (i.cut n) H vs as
  | [], _, _, h => by cases h; exact .nil
  | a :: as, _, hc, h => by
    rw [Mx.cls, Bool.and_eq_true] at hc
    cases h with
    | cons h1 h2 => exact .cons (VR.cut a _ hc.1 h1) (VRs.cut as _ hc.2 h2)
end
theorem VRk.cut {n : Nat} : ∀ (as : List (Key × AV)) (us : List (Key × V)), Mx.clk n as = true → VRk K i H us as → VRk K (i.cut n) H us as
  | [], _, _, h => by cases h; exact .nil
  | (k, a) :: as, _, hc, h => by
    rw [Mx.clk, Bool.and_eq_true] at hc
    cases h with
    | cons h1 h2 => exact .cons (h1.cut _ _ hc.1) (VRk.cut as _ hc.2 h2)
theorem VRt.cut {n : Nat} : ∀ (as : List (List Key × AV)) (us : List (List Key × V)), Mx.clt n as = true → VRt K i H us as → VRt K (i.cut n) H us as
  | [], _, _, h => by cases h; exact .nil
  | (k, a) :: as, _, hc, h => by
    rw [Mx.clt, Bool.and_eq_true] at hc
    cases h with
    | cons h1 h2 => exact .cons (h1.cut _ _ hc.1) (VRt.cut as _ hc.2 h2)
theorem OR.cut {n : Nat} {a : Addr} {fr : Prop} {c : AV} (hc : Mx.cl n c = true) (h : OR K i H a fr c) : OR K (i.cut n) H a fr c := by
  cases h with
  | lst h1 h2 => rw [Mx.cl] at hc; exact .lst h1 (h2.cut _ _ hc)
  | dK h1 h2 => rw [Mx.cl] at hc; exact .dK h1 (h2.cut _ _ hc)
  | dT h1 h2 => rw [Mx.cl] at hc; exact .dT h1 (h2.cut _ _ hc)
end
def fin (n : Nat) (M : AH) (a : AV) : AV := match a with
  | .ref k => if k < n then .ref k else (match M.objs[k]? with
    | some (.lst xs) => .lst xs
    | _ => .ref k)
  | a => a
def Clean (n : Nat) (M M' : AH) : Prop := M'.fz = M.fz ∧ n ≤ M'.objs.length ∧ ∀ k c, k < n → M'.objs[k]? = some c → M.objs[k]? = some c ∨ cl n c = true
def AH.cut (M : AH) (n : Nat) : AH := ⟨M.objs.take n, M.fz⟩
open Classical in
noncomputable def gc (m : List AV → AH → Res AV) : List AV → AH → Res AV := fun as M => match m as M with
  | .ok a M' => if Clean M.objs.length M M' ∧ cl M.objs.length (fin M.objs.length M' a) = true then .ok (fin M.objs.length M' a) (M'.cut M.objs.length) else .ok a M'
  | .exc c fs M' => if Clean M.objs.length M M' ∧ fs.all (fun p => cl M.objs.length p.2) = true then .exc c fs (M'.cut M.objs.length) else .exc c fs M'
  | .stuck => .stuck
section
variable {C : Cm} {i j : Ix} {M M' : AH} {H H' : Hp}
theorem Clean.sim (h : Clean M.objs.length M M') (s0 : Sim C.K C.tb i M H) (e : Ext i j H H') (s : Sim C.K C.tb j M' H') : Ext i (j.cut M.objs.length) H H' ∧ Sim C.K C.tb (j.cut M.objs.length) (M'.cut M.objs.length) H' ∧ (j.cut M.objs.length).num = i.num := by
  have hnum : (j.cut M.objs.length).num = i.num := by
    obtain ⟨l, q⟩ := e.app
    show j.num.take M.objs.length = i.num
    rw [q, ← s0.len, List.take_left]
  refine ⟨⟨⟨[], by rw [hnum, List.append_nil]⟩, e.prv, e.hid, fun a ha hn => absurd (hnum ▸ ha) hn, e.keep, e.fro, e.tbe, e.tbk, e.tbg⟩, ⟨?_, ?_, fun a ha => ⟨fun z => (s.sep a ha).1 (List.mem_of_mem_take z), (s.sep a ha).2⟩, fun n a c h1 h2 => ?_, fun a ha => s.nt a ha, fun n hn => (by
    have hn : n ∈ M'.fz := hn
    rw [h.1] at hn
    obtain ⟨a, h1, o, u, h2⟩ := s0.fzl n hn
    exact ⟨a, by rw [hnum]; exact h1, o, u, e.fro a o u h2⟩), s.tbs, s.npv, s.ht⟩, hnum⟩
  · show (j.num.take M.objs.length).length = (M'.objs.take M.objs.length).length
    rw [List.length_take, List.length_take, s.len]
  · exact s.nd.sublist (List.take_sublist _ _)
  · have h1 : (j.num.take M.objs.length)[n]? = some a := h1
    have h2 : (M'.objs.take M.objs.length)[n]? = some c := h2
    have hl : n < M.objs.length := by
      have q := (List.getElem?_eq_some_iff.mp h1).1
      rw [List.length_take] at q
      omega
    rw [List.getElem?_take, if_pos hl] at h1 h2
    have o := s.obj n a c h1 h2
    have hcl : cl M.objs.length c = true := by
      rcases h.2.2 n c hl h2 with z | z
      · obtain ⟨b, hb, ob⟩ := s0.at z
        exact ob.cl (by rw [s0.len]; exact Nat.le_refl _)
      · exact z
    exact o.cut hcl
theorem fin_vr {v : V} {a : AV} (hn : M.objs.length ≤ M'.objs.length) (s : Sim C.K C.tb j M' H') (r : VR C.K j H' v a) (hc : cl M.objs.length (fin M.objs.length M' a) = true) : VR C.K (j.cut M.objs.length) H' v (fin M.objs.length M' a) := by
  have done : ∀ x, fin M.objs.length M' a = x → VR C.K j H' v x → cl M.objs.length x = true → VR C.K (j.cut M.objs.length) H' v x := fun x _ h hx => h.cut _ _ hx
  cases r with
  | @ref p k hk =>
    by_cases hl : k < M.objs.length
    · have e : fin M.objs.length M' (.ref k) = .ref k := by simp [fin, hl]
      rw [e] at hc ⊢
      exact VR.cut _ _ hc (.ref hk)
    · obtain ⟨c, h1, o⟩ := s.get hk
      cases o with
      | @lst us xs h2 h3 =>
        have e : fin M.objs.length M' (.ref k) = .lst xs := by simp [fin, hl, h1]
        rw [e] at hc ⊢
        rw [cl] at hc
        refine .lst h2 (fun z => ?_) (h3.cut _ _ hc)
        rcases z with z | z
        · obtain ⟨m, hm, em⟩ := List.mem_iff_getElem.mp z
          have q : (j.num.take M.objs.length)[m]? = some p := (List.getElem?_eq_getElem hm).trans (congrArg some em)
          have hm' : m < M.objs.length := by
            have : m < (j.num.take M.objs.length).length := hm
            rw [List.length_take] at this
            omega
          rw [List.getElem?_take, if_pos hm'] at q
          have : m = k := nd_ix s.nd q hk
          omega
        · exact (s.sep p z).1 (List.mem_of_getElem? hk)
      | dK _ _ =>
        have e : fin M.objs.length M' (.ref k) = .ref k := by simp [fin, hl, h1]
        rw [e, cl] at hc
        exact absurd (of_decide_eq_true hc) hl
      | dT _ _ =>
        have e : fin M.objs.length M' (.ref k) = .ref k := by simp [fin, hl, h1]
        rw [e, cl] at hc
        exact absurd (of_decide_eq_true hc) hl
  | non => exact VR.cut _ _ hc .non
  | bl b => exact VR.cut _ _ hc (.bl b)
  | int b => exact VR.cut _ _ hc (.int b)
  | str b => exact VR.cut _ _ hc (.str b)
  | tup h1 h2 h3 => exact VR.cut _ _ hc (.tup h1 h2 h3)
  | lst h1 h2 h3 => exact VR.cut _ _ hc (.lst h1 h2 h3)
  | fro h1 h2 => exact VR.cut _ _ hc (.fro h1 h2)
  | tuc h1 h2 => exact VR.cut _ _ hc (.tuc h1 h2)
theorem FR.cut {n : Nat} : ∀ {us : List (Str × V)} {fs : List (Str × AV)}, fs.all (fun p => cl n p.2) = true → FR C.K j H' us fs → FR C.K (j.cut n) H' us fs
  | _, _, _, .nil => .nil
  | _, _, h, .cons r t => by
    rw [List.all_cons, Bool.and_eq_true] at h
    exact .cons (r.cut _ _ h.1) (FR.cut h.2 t)
theorem post.gc {m : List AV → AH → Res AV} {as : List AV} {Q : VK} {W : XK} (s0 : Sim C.K C.tb i M H) (h : post C (RV C) i H (Mx.gc m as M) Q W) : post C (RV C) i H (m as M) Q W := by
  unfold Mx.gc at h
  cases e : m as M with
  | ok a M' =>
    rw [e] at h
    simp only at h
    split at h
    · rename_i hc
      intro v j H' ee s r
      obtain ⟨e1, s1, _⟩ := hc.1.sim s0 ee s
      exact h v _ H' e1 s1 (fin_vr hc.1.2.1 s r hc.2)
    · exact h
  | exc c fs M' =>
    rw [e] at h
    simp only at h
    split at h
    · rename_i hc
      intro cls d j H' ee s x
      obtain ⟨e1, s1, _⟩ := hc.1.sim s0 ee s
      obtain ⟨A, q1, q2, dx, us, q3, q4, q5, q6⟩ := x
      exact h cls d _ H' e1 s1 ⟨A, q1, q2, dx, us, q3, Ix.not_cut q4, q5, q6.cut hc.2⟩
    · exact h
  | stuck =>
    rw [e] at h
    exact h
end
structure GnOk (P : Program) (w : World) (K : PySem.W.Frag) (mg : Str → Option Value) (base : Heap) (k : Nat) (f : Addr) (fd : FuncData) (ps : List Str) (sp : Sp) : Prop where
  len : ∀ vs H Q E, sp vs H Q E → vs.length = ps.length
  go : ∀ (A : Around) (outer : List PySem.Env) (s : Shared) (H : Hp) (args : Args) (us : List Value) (vs : List V) (Q : VK) (E : XK), A.guards = some [] → Room k A → Env0 P w K mg base A outer s H →
    BindsTo s fd args (ps.zip us) → Vals vs us → sp vs H Q E → codeAny (model P w) A (.call (.ref f) args) (CR (L2.CX P w) outer P w H s Q E) s
section
variable {P : Program} {w : World} {K : PySem.W.Frag} {mg : Str → Option Value} {base : Heap} {k : Nat} {f : Addr} {fd : FuncData} {ps : List Str} {sp sp' : Sp}
theorem GnOk.imp (G : GnOk P w K mg base k f fd ps sp) (h : ∀ vs H Q E, sp' vs H Q E → sp vs H Q E) : GnOk P w K mg base k f fd ps sp' :=
  ⟨fun vs H Q E q => G.len vs H Q E (h _ _ _ _ q), fun A o s H args us vs Q E g hr e b r q => G.go A o s H args us vs Q E g hr e b r (h _ _ _ _ q)⟩
theorem GnOk.mono {j : Nat} (G : GnOk P w K mg base j f fd ps sp) (h : j ≤ k) : GnOk P w K mg base k f fd ps sp := ⟨G.len, fun A o s H args us vs Q E g hr => G.go A o s H args us vs Q E g (hr.mono h)⟩
open PyProof.Rows in
theorem gn_of {x qual : Str} {st : Stmt} {N : List Str} (F : Fun K x qual st f fd) (S : FnScope N ps (defScope st)) (len : ∀ vs H Q E, sp vs H Q E → vs.length = ps.length)
    (body : ∀ (cdv : Value) (A : Around) (outer : List PySem.Env) (s : Shared) (H : Hp) (vs : List V) (Q : VK) (E : XK), A.guards = some [] → Room k (A.deeper (envOfC qual (defScope st) s.heap.objs.size f cdv)) → sp vs H Q E →
      ∃ t, PSs (cxOf (L2.CX P w) P w K mg base N qual (defScope st) f cdv A outer s H E) (defBody st) t ∧ t { nx := fun _ H' => Q .non H', rt := Q } (L2.start N vs) H) : GnOk P w K mg base (k + 1) f fd ps sp := by
  obtain ⟨oc, od, kV, doc, pm, an, cdv, ct, osl, rfl, lk, hcode⟩ := F.ex
  constructor
  · exact len
  intro A outer s H args us vs Q E g room ent bind rel want
  have stays : ∀ b o, base.get? b = some o → s.heap.get? b = some o := fun b o q => (ent.bs b o q).1
  have inK : K.In s.heap := ent.mod.kin.keeps stays
  have kinds : ∀ y ∈ ps.zip us, (defScope st).names.lookup y.1 = some .local ∨ ((defScope st).names.lookup y.1 = some .cell ∧ ((cellsFrom (s.heap.objs.size + 1) (defScope st).names []).lookup y.1).isSome = true) := by
    rintro ⟨nm, vv⟩ hy
    cases S.par nm (List.of_mem_zip hy).1 with
    | inl q => exact .inl q
    | inr q => exact .inr ⟨q, PySem.W.cellsFrom_some _ _ _ (.inl q)⟩
  apply codeAny_call_function room.depth (inK _ _ lk) rfl S.co S.gen rfl (PySem.W.codeRec_of inK hcode) (bind _ _ _ _ _)
  apply wpAny_newFunctionEnv_cells S.kind kinds
  intro env he s1 x
  subst he
  constructor
  · exact (ent.mod.nolimit.keeps stays).keeps x.toInCall.keep
  apply codeAny_func
  obtain ⟨t, ht, hq⟩ := body cdv A outer s H vs Q E g (room.deeper _) want
  have J := inv_start (CX := L2.CX P w) (P := P) (w := w) (K := K) (mg := mg) (base := base) (cd := cdv) (E := E) S room.hd ent (len _ _ _ _ want) rel x
  apply wpAny_mono (ht.run [] s1 (L2.start N vs) H _ J hq)
  · intro fl s' hs
    cases fl with
    | next =>
      obtain ⟨_, H', J', q⟩ := hs
      exact ⟨.non, H', J'.os, J'.bare, J'.base, J'.hok, rfl, q⟩
    | ret u =>
      obtain ⟨v, _, H', J', rv, q⟩ := hs
      exact ⟨v, H', J'.os, J'.bare, J'.base, J'.hok, rv, q⟩
    | brk =>
      obtain ⟨_, _, _, q⟩ := hs
      exact q.elim
    | cont =>
      obtain ⟨_, _, _, q⟩ := hs
      exact q.elim
  · exact fun e s' hs => hs
end
def mDef (n k : Nat) (body : SM) : List AV → AH → Res AV := fun as M => if as.length = n then (match body (as.map some ++ List.replicate k none) M with
  | .ret a M' => .ok a M'
  | .next _ M' => .ok .non M'
  | .exc c fs _ M' => .exc c fs M'
  | _ => .stuck) else .stuck
def spM (C : Cm) (m : List AV → AH → Res AV) : Sp := fun vs H Q E => ∃ i M as, Sim C.K C.tb i M H ∧ VRs C.K i H vs as ∧ post C (RV C) i H (m as M) Q E
theorem VRs.get {K : PySem.W.Frag} {i : Ix} {H : Hp} : ∀ {vs : List V} {as : List AV} {n : Nat} {a : AV}, VRs K i H vs as → as[n]? = some a → ∃ v, vs[n]? = some v ∧ VR K i H v a := fun h e => VRs.at h e
theorem er_start {K : PySem.W.Frag} {i : Ix} {H : Hp} {vs : List V} {as : List AV} {N : List Str} {k : Nat} (h : VRs K i H vs as) (hk : N.length = as.length + k) : ER K i H (L2.start N vs) (as.map some ++ List.replicate k none) := by
  have hl := h.len
  refine ⟨by simp [L2.start, hl, hk], fun n a e => ?_⟩
  by_cases hn : n < as.length
  · rw [List.getElem?_append_left (by simpa using hn), List.getElem?_map] at e
    cases q : as[n]? with
    | none => rw [q] at e; cases e
    | some b =>
      rw [q] at e
      have e' : b = a := Option.some.inj (Option.some.inj e)
      subst e'
      obtain ⟨v, h1, h2⟩ := h.at q
      refine ⟨v, ?_, h2⟩
      unfold L2.start
      rw [List.getElem?_append_left (by simp; omega), List.getElem?_map, h1]
      rfl
  · rw [List.getElem?_append_right (by simpa using hn)] at e
    have q := List.mem_of_getElem? e
    have z := (List.mem_replicate.mp q).2
    cases z
section
variable {P : Program} {w : World} {K : PySem.W.Frag} {mg : Str → Option Value} {base : Heap}
structure At (X : Cx) (W : WX) (k : Nat) : Prop where
  room : Room k X.A
  gd : X.A.guards = some []
  tk : Takes X W
  own : PassesOwn (model X.prog X.w) X.A X.env X.xe
theorem fn_ok {x qual : Str} {st : Stmt} {f : Addr} {fd : FuncData} {N ps : List Str} {k n e : Nat} {body : SM} (F : Fun K x qual st f fd) (S : FnScope N ps (defScope st)) (hn : ps.length = n) (he : N.length = n + e)
    (hb : ∀ (cdv : Value) (A : Around) (outer : List PySem.Env) (s : Shared) (H : Hp) (E : XK), At (cxOf (L2.CX P w) P w K mg base N qual (defScope st) f cdv A outer s H E) (fun cls d _ H => E cls d H) k →
      PSs (cxOf (L2.CX P w) P w K mg base N qual (defScope st) f cdv A outer s H E) (defBody st) (tS ⟨K, mg⟩ (fun cls d _ H => E cls d H) body)) : GnOk P w K mg base (k + 1) f fd ps (spM ⟨K, mg⟩ (gc (mDef n e body))) := by
  refine GnOk.imp (sp := spM ⟨K, mg⟩ (mDef n e body)) ?_ fun vs H Q E ⟨i, M, as, s, r, p⟩ => ⟨i, M, as, s, r, p.gc s⟩
  refine gn_of F S (fun vs H Q E h => ?_) (fun cdv A outer s H vs Q E g hr h => ⟨_, hb cdv A outer s H E ⟨hr, g, takes_of rfl rfl rfl rfl, passes_of rfl⟩, ?_⟩)
  · obtain ⟨i, M, as, s, r, p⟩ := h
    rw [r.len, hn]
    unfold mDef at p
    by_cases hl : as.length = n
    · exact hl
    · rw [if_neg hl] at p
      exact False.elim p
  · obtain ⟨i, M, as, s, r, p⟩ := h
    unfold mDef at p
    by_cases hl : as.length = n
    · rw [if_pos hl] at p
      refine ⟨i, _, M, s, er_start r (by rw [hl]; exact he), ?_⟩
      cases q : body (as.map some ++ List.replicate e none) M with
      | ret a M' =>
        rw [q] at p
        exact p
      | next G M' =>
        rw [q] at p
        exact fun σ j H' ee s' r' => p .non j H' ee s' .non
      | exc c fs G M' =>
        rw [q] at p
        exact fun cls d σ j H' ee s' r' x => p cls d j H' ee s' x
      | brk G M' =>
        rw [q] at p
        exact False.elim p
      | cnt G M' =>
        rw [q] at p
        exact False.elim p
      | stuck =>
        rw [q] at p
        exact False.elim p
    · rw [if_neg hl] at p
      exact False.elim p
end
section
variable {X : Cx} {W : WX} {pos p : Pos} {e : Expr} {es : List Expr} {n : AM} {m : List AV → AH → Res AV} {x : Str} {f : Addr} {fd : FuncData} {ps : List Str} {k : Nat}
theorem g_run {sp : Sp} {E : XK} {pins : List (Addr × Obj)} {σ : St} {H : Hp} {s : Shared} {Q : VK} {us : List Value} {vs : List V} (G : GnOk X.prog X.w X.K X.mg X.base k f fd ps sp) (hg : X.A.guards = some []) (hr : Room k X.A) (hb : Binds X.K fd ps [])
    (hx : ∀ H s' e, L2.CX X.prog X.w X.stack H s E e s' → Inv X pins σ H s → X.xe e s') (I : Inv X pins σ H s) (r : Vals vs us) (q : sp vs H Q E) : wpAny (model X.prog X.w) X.A (call (.ref f) us) (EP X pins σ Q) X.xe s := by
  have hl : (us ++ ([] : List Value)).length = ps.length := by
    rw [List.append_nil, ← r.length]
    exact G.len _ _ _ _ q
  have b := hb s us I.kIn hl
  rw [List.append_nil] at b
  apply wpAny_call
  apply codeAny_mono (G.go X.A X.stack s H ⟨us, []⟩ us vs Q E hg hr I.env0 b r q)
  intro res s' h
  match res, h with
  | .error er, h => exact hx H s' er h I
  | .ok (.ret u), h => exact I.after h
theorem e_call (F : GnOk X.prog X.w X.K X.mg X.base k f fd ps (spM (cm X) m)) (T : At X W k) (hg : Gl X x) (hm : X.mg x = some (.ref f)) (hk : PySem.W.keepIn X.K (.ref f) = true) (hb : Binds X.K fd ps [])
    (ha : PA X (e :: es) (tA (cm X) W n)) (hdb : (x == ("__debug__" : Str)) = false := by decide) (he : starEach (e :: es) X.env = (false, eval e X.env) :: starEach es X.env := by rfl) (hpl : (backTo pos (starEach es X.env)).any (·.1) = false := by rfl) :
    PE X (.Call (.Name x p) (e :: es) [] pos) (tE (cm X) W (mCall m n)) := by
  constructor
  intro pins s σ H Q I h
  have h1 := tM.bind (R := RVs (cm X)) (m := n) (f := fun G as M1 => m as M1) h
  apply wpAny_Call_Name_kw (ld_glob I hg hm _ hdb)
  apply PySem.W.callWith_K (h₀ := X.base) I.ok.mod.kin hk _ he hpl
  apply thn (ha.run pos pins s σ H _ I h1)
  rintro us s1 ⟨vs, H1, I1, r, j, G, as, M, sm, er, rr, q⟩
  exact ⟨I1.kIn, g_run F T.gd T.room hb (fun H s' e c J => passAt T.tk σ _ _ _ e s' J c) I1 r ⟨j, M, as, sm, rr, q⟩⟩
end
theorem ints_vr {K : PySem.W.Frag} {i : Ix} {H : Hp} : ∀ ns : List Int, VRs K i H (ns.map V.int) (ns.map AV.int)
  | [] => .nil
  | n :: ns => .cons (.int n) (ints_vr ns)
def LawOk (m : List AV → AH → Res AV) : Prop := ∀ ns : List Int, ns.length ≤ 63 → ∃ M', m [.fro (ns.map .int)] ⟨[], []⟩ = .ok (.bl true) M'
theorem law_sp {K : PySem.W.Frag} {mg : Str → Option Value} {m : List AV → AH → Res AV} (h : LawOk m) {a : Addr} {ns : List Int} {H : Hp} {E : XK} (hl : ns.length ≤ 63) (hq : SqL K H a (ns.map V.int)) (ht : LamX.Tabs (Cm.tb ⟨K, mg⟩) H) : spM ⟨K, mg⟩ m [.ref a] H (fun v _ => v = .bl true) E := by
  obtain ⟨M', e⟩ := h ns hl
  refine ⟨⟨[], [], Cm.tb ⟨K, mg⟩⟩, ⟨[], []⟩, [.fro (ns.map .int)], ⟨rfl, List.nodup_nil, (fun a h => nomatch h), (fun n a c h _ => by simp at h), (fun a h => nomatch h), (fun n h => nomatch h), ht, (fun a h => nomatch h), rfl⟩, .cons (.fro ?_ (ints_vr ns)) .nil, ?_⟩
  · rcases hq with hq | hq
    · exact .inl ⟨hq, fun z => by rcases z with z | z <;> cases z⟩
    · exact .inr hq
  · rw [e]
    intro v j H' _ _ r
    cases r
    rfl
end Mx

namespace Mx
open PySem L2
mutual
theorem reads_uniq : ∀ (x y : PyData) (n : Nat) (h : Heap) (v : Value) (as bs : List Addr), pdl n x = true → Reads h v x as → Reads h v y bs → x = y
  | .none, y, _, _, _, _, _, _, a, b => by cases a; cases b; rfl
  | .bool k, y, _, _, _, _, _, _, a, b => by cases a; cases b; rfl
  | .int k, y, _, _, _, _, _, _, a, b => by cases a; cases b; rfl
  | .str k, y, _, _, _, _, _, _, a, b => by cases a; cases b; rfl
  | .dict _, _, n, _, _, _, _, hp, _, _ => by cases n <;> cases hp
  | .list xs, _, 0, _, _, _, _, hp, _, _ => by cases hp
  | .tuple xs, _, 0, _, _, _, _, hp, _, _ => by cases hp
  | .list xs, y, n + 1, h, v, as, bs, hp, a, b => by
    cases a with
    | list a1 a2 a3 a4 =>
      cases b with
      | list b1 b2 b3 b4 =>
        obtain ⟨vs, cs, ds, r1, r2⟩ := uniq_list (.list a1 a2 a3 a4) (.list b1 b2 b3 b4)
        rw [reads_uniqs xs _ n h vs _ _ hp r1 r2]
      | tuple b1 b2 b3 b4 =>
        rw [a1] at b1
        cases b1
        rw [a2] at b2
        injection b2 with z
        exact absurd z (by decide)
      | dict b1 b2 =>
        rw [a1] at b1
        cases b1
        rw [a2] at b2
        injection b2 with z
        exact absurd z (by decide)
  | .tuple xs, y, n + 1, h, v, as, bs, hp, a, b => by
    cases a with
    | tuple a1 a2 a3 a4 =>
      cases b with
      | tuple b1 b2 b3 b4 =>
        obtain ⟨vs, cs, ds, r1, r2⟩ := uniq_tuple (.tuple a1 a2 a3 a4) (.tuple b1 b2 b3 b4)
        rw [reads_uniqs xs _ n h vs _ _ hp r1 r2]
      | list b1 b2 b3 b4 =>
        rw [a1] at b1
        cases b1
        rw [a2] at b2
        injection b2 with z
        exact absurd z (by decide)
      | dict b1 b2 =>
        rw [a1] at b1
        cases b1
        rw [a2] at b2
        injection b2 with z
        exact absurd z (by decide)
theorem reads_uniqs : ∀ (xs ys : List PyData) (n : Nat) (h : Heap) (vs : List Value) (as bs : List Addr), xs.all (pdl n) = true → ReadsAll h vs xs as → ReadsAll h vs ys bs → xs = ys
  | [], _, _, _, _, _, _, _, a, b => by cases a; cases b; rfl
  | x :: xs, _, n, h, _, _, _, hp, a, b => by
    cases a with
    | cons a1 a2 =>
      cases b with
      | cons b1 b2 =>
        rw [List.all_cons, Bool.and_eq_true] at hp
        rw [reads_uniq x _ n h _ _ _ hp.1 a1 b1, reads_uniqs xs _ n h _ _ _ hp.2 a2 b2]
end
open Classical in
noncomputable def readAt (h : Heap) (u : Value) : PyData := if q : ∃ d as, Reads h u d as ∧ pdl 60 d = true then choose q else .none
theorem readAt_eq {h : Heap} {u : Value} {d : PyData} {as : List Addr} (r : Reads h u d as) (p : pdl 60 d = true) : readAt h u = d := by
  have q : ∃ d as, Reads h u d as ∧ pdl 60 d = true := ⟨d, as, r, p⟩
  unfold readAt
  rw [dif_pos q]
  obtain ⟨bs, r2, p2⟩ := Classical.choose_spec q
  exact reads_uniq _ _ 60 h u _ _ p2 r2 r
theorem readsAll_at {h : Heap} : ∀ {us : List Value} {ds : List PyData} {as : List Addr}, ReadsAll h us ds as → ds.all (pdl 60) = true → us.map (readAt h) = ds ∧ ∀ u ∈ us, ∃ d bs, Reads h u d bs ∧ pdl 60 d = true
  | _, _, _, .nil, _ => ⟨rfl, fun _ h => nomatch h⟩
  | _, _, _, .cons r t, p => by
    rw [List.all_cons, Bool.and_eq_true] at p
    obtain ⟨h1, h2⟩ := readsAll_at t p.2
    refine ⟨by rw [List.map_cons, h1, readAt_eq r p.1], fun u hu => ?_⟩
    rcases List.mem_cons.mp hu with e | hu
    · subst e
      exact ⟨_, _, r, p.1⟩
    · exact h2 u hu
theorem any_at {h : Heap} {us : List Value} {ds : List PyData} {as : List Addr} (f : PyData → Bool) (r : ReadsAll h us ds as) (p : ds.all (pdl 60) = true) : (us.toArray.any fun u => f (readAt h u)) = ds.any f := by
  have e := (readsAll_at r p).1
  rw [← e, List.any_map]
  simp [Function.comp_def]
open PySem.SeqAt in
theorem items_eq {s : Shared} {A : Around} {us : List Value} {ds : List PyData} {as bs : List Addr} {x : Value} {d : PyData} (r : ReadsAll s.heap us ds as) (p : ds.all (pdl 60) = true) (rx : Reads s.heap x d bs) (px : pdl 60 d = true) (hu : A.units + 60 < cLine) :
    ∀ y, y ∈ us.toArray → EqAt A s y x (PyData.eqv (readAt s.heap y) d) := fun y hy => by
  obtain ⟨e, cs, ry, py⟩ := (readsAll_at r p).2 y (by simpa using hy)
  rw [readAt_eq ry py]
  exact eq_deep 60 e d A s y x cs bs ry rx py px hu
inductive SeqD (K : PySem.W.Frag) (H : Hp) : V → List PyData → Prop
  | lst {a : Addr} {xs : List V} {ds : List PyData} : SqL K H a xs → DpAll K H xs ds → SeqD K H (.ref a) ds
  | tup {a : Addr} {xs : List V} {ds : List PyData} : SqT K H a xs → DpAll K H xs ds → SeqD K H (.ref a) ds
def rInP (K : PySem.W.Frag) (neg : Bool) : R2 := fun x y H Q => ∃ d ds, Dp K H x d ∧ SeqD K H y ds ∧ pdl 60 d = true ∧ ds.all (pdl 60) = true ∧ Q (.bl (if neg then !ds.any (fun z => PyData.eqv z d) else ds.any fun z => PyData.eqv z d)) H
open PySem.SeqAt in
theorem op_inP {X : Cx} (hu : X.A.units + 64 < cLine) : OpR X (compareOp .In) (rInP X.K false) := by
  intro pins s σ H x y v u Q I rx ry h
  obtain ⟨d, ds, hd, he, pd, pe, q⟩ := h
  obtain ⟨as, r1⟩ := Dp.reads I d x v hd rx
  have room : X.A.in1.units + 60 < cLine := by
    show X.A.units + 1 + 60 < cLine
    omega
  cases he with
  | lst hs ha =>
    cases ry
    obtain ⟨its, rv, hl, _⟩ := I.list hs
    obtain ⟨bs, r2⟩ := Dp.readsAll I ds _ its ha rv
    refine in_listAt (fun z => PyData.eqv (readAt s.heap z) d) hl.isList (items_eq r2 pe r1 pd room) ⟨.bl _, H, I, ?_, q⟩
    rw [any_at (fun z => PyData.eqv z d) r2 pe]
    rfl
  | tup hs ha =>
    cases ry
    obtain ⟨its, rv, hl, _⟩ := I.tuple hs
    obtain ⟨bs, r2⟩ := Dp.readsAll I ds _ its ha rv
    refine in_tupleAt (fun z => PyData.eqv (readAt s.heap z) d) (show s.heap.IsTuple _ its.toArray from hl) (items_eq r2 pe r1 pd room) ⟨.bl _, H, I, ?_, q⟩
    rw [any_at (fun z => PyData.eqv z d) r2 pe]
    rfl
open PySem.SeqAt in
theorem op_notInP {X : Cx} (hu : X.A.units + 64 < cLine) : OpR X (compareOp .NotIn) (rInP X.K true) := by
  intro pins s σ H x y v u Q I rx ry h
  obtain ⟨d, ds, hd, he, pd, pe, q⟩ := h
  obtain ⟨as, r1⟩ := Dp.reads I d x v hd rx
  have room : X.A.in1.units + 60 < cLine := by
    show X.A.units + 1 + 60 < cLine
    omega
  cases he with
  | lst hs ha =>
    cases ry
    obtain ⟨its, rv, hl, _⟩ := I.list hs
    obtain ⟨bs, r2⟩ := Dp.readsAll I ds _ its ha rv
    refine notIn_listAt (fun z => PyData.eqv (readAt s.heap z) d) hl.isList (items_eq r2 pe r1 pd room) ⟨.bl _, H, I, ?_, q⟩
    rw [any_at (fun z => PyData.eqv z d) r2 pe]
    rfl
  | tup hs ha =>
    cases ry
    obtain ⟨its, rv, hl, _⟩ := I.tuple hs
    obtain ⟨bs, r2⟩ := Dp.readsAll I ds _ its ha rv
    refine notIn_tupleAt (fun z => PyData.eqv (readAt s.heap z) d) (show s.heap.IsTuple _ its.toArray from hl) (items_eq r2 pe r1 pd room) ⟨.bl _, H, I, ?_, q⟩
    rw [any_at (fun z => PyData.eqv z d) r2 pe]
    rfl
def lstR (M : AH) : AV → Option (List AV)
  | .lst xs => some xs
  | .fro xs => some xs
  | .ref n => match M.objs[n]? with
    | some (.lst xs) => some xs
    | _ => none
  | _ => none
def lstX (M : AH) : AV → Option (List AV)
  | .lst xs => some xs
  | .ref n => match M.objs[n]? with
    | some (.lst xs) => some xs
    | _ => none
  | _ => none
def dctK (M : AH) : AV → Option (List (Key × AV))
  | .ref n => match M.objs[n]? with
    | some (.dK kvs) => some kvs
    | _ => none
  | _ => none
def dctT (M : AH) : AV → Option (List (List Key × AV))
  | .ref n => match M.objs[n]? with
    | some (.dT kvs) => some kvs
    | _ => none
  | _ => none
section
variable {K : PySem.W.Frag} {T : List (Addr × Str)} {i : Ix} {M : AH} {H : Hp} {v : V} {a : AV} {xs : List AV}
theorem lstR_at (s : Sim K T i M H) (r : VR K i H v a) (h : lstR M a = some xs) : ∃ p us, v = .ref p ∧ SqL K H p us ∧ VRs K i H us xs := by
  cases r with
  | lst h1 h2 h3 =>
    cases h
    exact ⟨_, _, rfl, SqL.of h1, h3⟩
  | fro h1 h2 =>
    cases h
    exact ⟨_, _, rfl, sl_of h1, h2⟩
  | @ref p n hn =>
    obtain ⟨c, hc, o⟩ := s.get hn
    simp only [lstR, hc] at h
    cases o with
    | lst h1 h2 =>
      cases h
      exact ⟨_, _, rfl, SqL.of h1, h2⟩
    | dK _ _ => cases h
    | dT _ _ => cases h
  | _ => cases h
theorem lstX_at (s : Sim K T i M H) (r : VR K i H v a) (h : lstX M a = some xs) : ∃ p us, v = .ref p ∧ H p = some (.lst us) ∧ VRs K i H us xs := by
  cases r with
  | lst h1 h2 h3 =>
    cases h
    exact ⟨_, _, rfl, h1, h3⟩
  | @ref p n hn =>
    obtain ⟨c, hc, o⟩ := s.get hn
    simp only [lstX, hc] at h
    cases o with
    | lst h1 h2 =>
      cases h
      exact ⟨_, _, rfl, h1, h2⟩
    | dK _ _ => cases h
    | dT _ _ => cases h
  | _ => cases h
theorem dctK_at {kvs : List (Key × AV)} (s : Sim K T i M H) (r : VR K i H v a) (h : dctK M a = some kvs) : ∃ p n us, v = .ref p ∧ a = .ref n ∧ i.num[n]? = some p ∧ M.objs[n]? = some (.dK kvs) ∧ Rd H p (.dK us) ∧ (n ∉ M.fz → H p = some (.dK us)) ∧ VRk K i H us kvs := by
  cases r with
  | @ref p n hn =>
    obtain ⟨c, hc, o⟩ := s.get hn
    simp only [dctK, hc] at h
    cases o with
    | dK h1 h2 =>
      cases h
      refine ⟨p, n, _, rfl, rfl, hn, hc, ?_, fun hf => ?_, h2⟩
      · rcases h1 with h1 | ⟨_, h1⟩
        · exact .inl h1
        · exact .inr h1
      · rcases h1 with h1 | ⟨h0, _⟩
        · exact h1
        · exact absurd h0 hf
    | lst _ _ => cases h
    | dT _ _ => cases h
  | _ => cases h
theorem dctT_at {kvs : List (List Key × AV)} (s : Sim K T i M H) (r : VR K i H v a) (h : dctT M a = some kvs) : ∃ p n us, v = .ref p ∧ a = .ref n ∧ i.num[n]? = some p ∧ M.objs[n]? = some (.dT kvs) ∧ Rd H p (.dT us) ∧ (n ∉ M.fz → H p = some (.dT us)) ∧ VRt K i H us kvs := by
  cases r with
  | @ref p n hn =>
    obtain ⟨c, hc, o⟩ := s.get hn
    simp only [dctT, hc] at h
    cases o with
    | dT h1 h2 =>
      cases h
      refine ⟨p, n, _, rfl, rfl, hn, hc, ?_, fun hf => ?_, h2⟩
      · rcases h1 with h1 | ⟨_, h1⟩
        · exact .inl h1
        · exact .inr h1
      · rcases h1 with h1 | ⟨h0, _⟩
        · exact h1
        · exact absurd h0 hf
    | lst _ _ => cases h
    | dK _ _ => cases h
  | _ => cases h
def keyK : AV → Option Key
  | .int k => some (.inl k)
  | .str x => some (.inr x)
  | _ => none
def keyKs : List AV → Option (List Key)
  | [] => some []
  | a :: r => match keyK a, keyKs r with
    | some k, some ks => some (k :: ks)
    | _, _ => none
def keyT : AV → Option (List Key)
  | .tup xs => keyKs xs
  | _ => none
theorem keyK_at {k : Key} (r : VR K i H v a) (h : keyK a = some k) : v = kV k := by
  cases r with
  | int n => cases h; rfl
  | str n => cases h; rfl
  | _ => cases h
theorem keyKs_at : ∀ {us : List V} {as : List AV} {ks : List Key}, VRs K i H us as → keyKs as = some ks → us = ks.map kV
  | _, _, _, .nil, h => by cases h; rfl
  | _, _, ks, .cons (a := a) (as := as) r t, h => by
    unfold keyKs at h
    cases e1 : keyK a with
    | none => rw [e1] at h; cases h
    | some k =>
      cases e2 : keyKs as with
      | none => rw [e1, e2] at h; cases h
      | some ks' =>
        rw [e1, e2] at h
        cases h
        rw [List.map_cons, keyK_at r e1, keyKs_at t e2]
theorem keyT_at {ks : List Key} (r : VR K i H v a) (h : keyT a = some ks) : ∃ b, v = .ref b ∧ H b = some (.tup (ks.map kV)) := by
  cases r with
  | @tup b us as h1 hn h2 => exact ⟨b, rfl, by rw [h1, keyKs_at h2 h]⟩
  | _ => cases h
end
def getK {κ : Type} [DecidableEq κ] (kvs : List (κ × AV)) (k : κ) : Option AV := (kvs.find? fun kv => decide (kv.1 = k)).map (·.2)
def setK {κ : Type} [DecidableEq κ] (kvs : List (κ × AV)) (k : κ) (v : AV) : List (κ × AV) :=
  if (kvs.any fun kv => decide (kv.1 = k)) = true then kvs.map (fun kv => if kv.1 = k then (kv.1, v) else kv) else kvs ++ [(k, v)]
section
variable {K : PySem.W.Frag} {i : Ix} {H : Hp}
theorem VRk.get {k : Key} : ∀ {us : List (Key × V)} {as : List (Key × AV)}, VRk K i H us as → (valV us k = none ∧ getK as k = none) ∨ ∃ v a, valV us k = some v ∧ getK as k = some a ∧ VR K i H v a
  | _, _, .nil => .inl ⟨rfl, rfl⟩
  | _, _, .cons (k := k') (v := v) (a := a) r t => by
    by_cases e : k' = k
    · exact .inr ⟨v, a, by simp [valV, e], by simp [getK, e], r⟩
    · rcases VRk.get (k := k) t with ⟨h1, h2⟩ | ⟨v', a', h1, h2, h3⟩
      · left
        unfold valV getK at *
        rw [List.find?_cons, List.find?_cons]
        simp only [e, decide_false]
        exact ⟨h1, h2⟩
      · right
        refine ⟨v', a', ?_, ?_, h3⟩ <;> unfold valV getK at * <;> rw [List.find?_cons] <;> simp only [e, decide_false] <;> assumption
theorem VRt.get {k : List Key} : ∀ {us : List (List Key × V)} {as : List (List Key × AV)}, VRt K i H us as → (valV us k = none ∧ getK as k = none) ∨ ∃ v a, valV us k = some v ∧ getK as k = some a ∧ VR K i H v a
  | _, _, .nil => .inl ⟨rfl, rfl⟩
  | _, _, .cons (k := k') (v := v) (a := a) r t => by
    by_cases e : k' = k
    · exact .inr ⟨v, a, by simp [valV, e], by simp [getK, e], r⟩
    · rcases VRt.get (k := k) t with ⟨h1, h2⟩ | ⟨v', a', h1, h2, h3⟩
      · left
        unfold valV getK at *
        rw [List.find?_cons, List.find?_cons]
        simp only [e, decide_false]
        exact ⟨h1, h2⟩
      · right
        refine ⟨v', a', ?_, ?_, h3⟩ <;> unfold valV getK at * <;> rw [List.find?_cons] <;> simp only [e, decide_false] <;> assumption
theorem VRk.any {p : Key → Bool} : ∀ {us : List (Key × V)} {as : List (Key × AV)}, VRk K i H us as → us.any (fun kv => p kv.1) = as.any fun kv => p kv.1
  | _, _, .nil => rfl
  | _, _, .cons _ t => by rw [List.any_cons, List.any_cons, VRk.any t]
theorem VRt.any {p : List Key → Bool} : ∀ {us : List (List Key × V)} {as : List (List Key × AV)}, VRt K i H us as → us.any (fun kv => p kv.1) = as.any fun kv => p kv.1
  | _, _, .nil => rfl
  | _, _, .cons _ t => by rw [List.any_cons, List.any_cons, VRt.any t]
theorem VRk.repl {k : Key} {v : V} {a : AV} (h : VR K i H v a) : ∀ {us : List (Key × V)} {as : List (Key × AV)}, VRk K i H us as → VRk K i H (us.map fun kv => if kv.1 = k then (kv.1, v) else kv) (as.map fun kv => if kv.1 = k then (kv.1, a) else kv)
  | _, _, .nil => .nil
  | _, _, .cons (k := k') r t => by
    rw [List.map_cons, List.map_cons]
    by_cases e : k' = k
    · simp only [e, if_true]
      exact .cons h (VRk.repl h t)
    · simp only [e, if_false]
      exact .cons r (VRk.repl h t)
theorem VRt.repl {k : List Key} {v : V} {a : AV} (h : VR K i H v a) : ∀ {us : List (List Key × V)} {as : List (List Key × AV)}, VRt K i H us as → VRt K i H (us.map fun kv => if kv.1 = k then (kv.1, v) else kv) (as.map fun kv => if kv.1 = k then (kv.1, a) else kv)
  | _, _, .nil => .nil
  | _, _, .cons (k := k') r t => by
    rw [List.map_cons, List.map_cons]
    by_cases e : k' = k
    · simp only [e, if_true]
      exact .cons h (VRt.repl h t)
    · simp only [e, if_false]
      exact .cons r (VRt.repl h t)
theorem VRk.snoc {k : Key} {v : V} {a : AV} (h : VR K i H v a) : ∀ {us : List (Key × V)} {as : List (Key × AV)}, VRk K i H us as → VRk K i H (us ++ [(k, v)]) (as ++ [(k, a)])
  | _, _, .nil => .cons h .nil
  | _, _, .cons r t => .cons r (VRk.snoc h t)
theorem VRt.snoc {k : List Key} {v : V} {a : AV} (h : VR K i H v a) : ∀ {us : List (List Key × V)} {as : List (List Key × AV)}, VRt K i H us as → VRt K i H (us ++ [(k, v)]) (as ++ [(k, a)])
  | _, _, .nil => .cons h .nil
  | _, _, .cons r t => .cons r (VRt.snoc h t)
theorem VRk.put {k : Key} {v : V} {a : AV} {us : List (Key × V)} {as : List (Key × AV)} (h : VR K i H v a) (r : VRk K i H us as) : VRk K i H (putK us k v) (setK as k a) := by
  unfold putK setK
  rw [VRk.any (p := fun z => decide (z = k)) r]
  split
  · exact r.repl h
  · exact r.snoc h
theorem VRt.put {k : List Key} {v : V} {a : AV} {us : List (List Key × V)} {as : List (List Key × AV)} (h : VR K i H v a) (r : VRt K i H us as) : VRt K i H (putK us k v) (setK as k a) := by
  unfold putK setK
  rw [VRt.any (p := fun z => decide (z = k)) r]
  split
  · exact r.repl h
  · exact r.snoc h
theorem VRk.len : ∀ {us : List (Key × V)} {as : List (Key × AV)}, VRk K i H us as → us.length = as.length
  | _, _, .nil => rfl
  | _, _, .cons _ t => by rw [List.length_cons, List.length_cons, VRk.len t]
theorem VRt.len : ∀ {us : List (List Key × V)} {as : List (List Key × AV)}, VRt K i H us as → us.length = as.length
  | _, _, .nil => rfl
  | _, _, .cons _ t => by rw [List.length_cons, List.length_cons, VRt.len t]
end
end Mx

namespace Mx
open PySem L2
theorem post.need {α β : Type} {C : Cm} {R : Ix → Hp → β → α → Prop} {i : Ix} {H : Hp} {c : Prop} [Decidable c] {r : Res α} {Q : β → Hp → Prop} {W : XK} (h : post C R i H (if c then r else .stuck) Q W) : c ∧ post C R i H r Q W := by
  by_cases hc : c
  · rw [if_pos hc] at h
    exact ⟨hc, h⟩
  · rw [if_neg hc] at h
    exact False.elim h
def gAdd : AV → AV → AH → Res AV
  | .int i, .int j, M => .ok (.int (i + j)) M
  | .str x, .str y, M => sized (x.length + y.length) (.ok (.str (x ++ y)) M)
  | .tup xs, .tup ys, M => sized (xs.length + ys.length) (.ok (.tup (xs ++ ys)) M)
  | a, b, M => match lstX M a, lstX M b with
    | some xs, some ys => sized (xs.length + ys.length) (.ok (.lst (xs ++ ys)) M)
    | _, _ => .stuck
def rAddA (K : PySem.W.Frag) : R2 := fun x y H Q => rI0 (fun i j => .int (i + j)) x y H Q ∨ (∃ i j, x = .str i ∧ y = .str j ∧ i.length + j.length ≤ sizeLine ∧ Q (.str (i ++ j)) H) ∨ rCatA K x y H Q ∨ rCat x y H Q
theorem VRs.app {K : PySem.W.Frag} {i : Ix} {H : Hp} {us ws : List V} {as bs : List AV} (q : VRs K i H ws bs) : VRs K i H us as → VRs K i H (us ++ ws) (as ++ bs)
  | .nil => q
  | .cons h t => .cons h (VRs.app q t)
theorem o_cat {C : Cm} {i : Ix} {M : AH} {H : Hp} {x y : V} {a b : AV} {Q : VK} {W : XK} {f : List AV → List AV → Res AV} (s : Sim C.K C.tb i M H) (ra : VR C.K i H x a) (rb : VR C.K i H y b)
    (p : post C (RV C) i H (match lstX M a, lstX M b with | some xs, some ys => sized (xs.length + ys.length) (f xs ys) | _, _ => .stuck) Q W)
    (k : ∀ (us ws : List V) (xs ys : List AV), VRs C.K i H us xs → VRs C.K i H ws ys → post C (RV C) i H (f xs ys) Q W → ∀ q, H q = none → Q (.ref q) (upd H q (.lst (us ++ ws)))) : rCat x y H Q := by
  cases e1 : lstX M a with
  | none => rw [e1] at p; exact False.elim p
  | some xs =>
    cases e2 : lstX M b with
    | none => rw [e1, e2] at p; exact False.elim p
    | some ys =>
      rw [e1, e2] at p
      obtain ⟨p1, us, rfl, h1, r1⟩ := lstX_at s ra e1
      obtain ⟨p2, ws, rfl, h2, r2⟩ := lstX_at s rb e2
      obtain ⟨hz, p⟩ := p.sized
      exact ⟨p1, p2, us, ws, rfl, rfl, h1, h2, by rw [r1.len, r2.len]; exact hz, k us ws xs ys r1 r2 p⟩
theorem o_add {C : Cm} : Op2 C (rAddA C.K) gAdd := fun i M H x y a b Q W s ra rb p => by
  have lst : (p' : post C (RV C) i H (match lstX M a, lstX M b with | some xs, some ys => sized (xs.length + ys.length) (.ok (.lst (xs ++ ys)) M) | _, _ => .stuck) Q W) → rAddA C.K x y H Q := fun p' =>
    .inr (.inr (.inr (o_cat s ra rb p' fun us ws xs ys r1 r2 pp => new_lst s (VRs.app r2 r1) pp)))
  cases ra with
  | int k =>
    cases rb with
    | int l => exact .inl ⟨k, l, rfl, rfl, p.now s (.int _)⟩
    | _ => exact lst p
  | str k =>
    cases rb with
    | str l =>
      obtain ⟨hz, p⟩ := p.sized
      exact .inr (.inl ⟨k, l, rfl, rfl, hz, p.now s (.str _)⟩)
    | _ => exact lst p
  | @tup p1 us as h1 n1 r1 =>
    cases rb with
    | @tup p2 ws bs h2 n2 r2 =>
      obtain ⟨hz, p⟩ := p.sized
      refine .inr (.inr (.inl ⟨p1, p2, us, ws, rfl, rfl, sq_of h1, sq_of h2, by rw [r1.len, r2.len]; exact hz, fun e => ?_, fun e1 e2 => ?_, fun _ _ => new_tup s (VRs.app r2 r1) p⟩))
      · subst e
        cases r1
        exact p.now s (.tup h2 n2 r2)
      · subst e2
        cases r2
        rw [List.append_nil] at p
        exact p.now s (.tup h1 n1 r1)
    | _ => exact lst p
  | _ => exact lst p
theorem x_add {X : Cx} : OpR X (binaryOp .Add) (rAddA X.K) := op_add.or (op_add_str.or (op_catA.or op_cat))
def gSub : AV → AV → AH → Res AV
  | .int i, .int j, M => .ok (.int (i - j)) M
  | _, _, _ => .stuck
theorem o_sub {C : Cm} : Op2 C (rI0 fun i j => .int (i - j)) gSub := fun i M H x y a b Q W s ra rb p => by
  cases ra with
  | int k =>
    cases rb with
    | int l => exact ⟨k, l, rfl, rfl, p.now s (.int _)⟩
    | _ => exact False.elim p
  | _ => exact False.elim p
def mulOk (i j : Int) : Prop := (-(2 ^ 64) < i ∧ i < 2 ^ 64) ∨ (-(2 ^ 64) < j ∧ j < 2 ^ 64) ∨ (i.natAbs < 2 ^ 4000 ∧ j.natAbs < 2 ^ 4000)
instance (i j : Int) : Decidable (mulOk i j) := inferInstanceAs (Decidable (_ ∨ _ ∨ _))
def strMul (x : Str) (n : Int) : Str := ⟨((List.replicate n.toNat x.cps.toList).flatten).toArray⟩
theorem foldl_flat : ∀ (l : List (Array Nat)) (a : Array Nat), (l.foldl (· ++ ·) a) = a ++ ((l.map Array.toList).flatten).toArray
  | [], a => by simp
  | x :: l, a => by
    rw [List.foldl_cons, foldl_flat l (a ++ x)]
    apply Array.toList_inj.mp
    simp
theorem txt_mul (x : Str) (n : Int) : Txt.mul x n = strMul x n := by
  unfold Txt.mul strMul
  by_cases h : n < 1
  · rw [if_pos h]
    have e : n.toNat = 0 := by omega
    rw [e]
    rfl
  · rw [if_neg h]
    split
    · rename_i hc
      rw [Bool.or_eq_true] at hc
      rcases hc with hc | hc
      · have e : n = 1 := by simpa using hc
        subst e
        cases x
        simp
      · have e : x.cps.size = 0 := by simpa [Str.length] using hc
        have e2 : x.cps = #[] := Array.eq_empty_of_size_eq_zero e
        cases x
        simp only at e2
        subst e2
        simp
    · rw [foldl_flat]
      simp
theorem op_mul_str {X : Cx} : OpR X (binaryOp .Mult) (fun x y H Q => ∃ z n, x = .str z ∧ y = .int n ∧ (0 ≤ n ∧ n ≤ 100 ∧ z.length ≤ 1000) ∧ Q (.str (strMul z n)) H) := by
  intro pins s σ H x y v u Q I rx ry h
  obtain ⟨z, n, rfl, rfl, ⟨h0, h1, h2⟩, q⟩ := h
  obtain ⟨t, rfl⟩ := rx
  obtain ⟨t', rfl⟩ := ry
  rw [← txt_mul] at q
  refine PySem.SB.mul ⟨?_, fun h3 _ => ?_, fun h3 _ => ?_⟩ fun t' k => ⟨.str _, H, I.tok _, ⟨_, rfl⟩, q⟩
  · have a1 : decide (n < -(2 ^ 63 : Int)) = false := decide_eq_false (by omega)
    have a2 : decide (n ≥ (2 ^ 63 : Int)) = false := decide_eq_false (by omega)
    rw [a1, a2]
    rfl
  · have : (2 ^ 63 - 1 : Int) / 100 ≤ (2 ^ 63 - 1) / n := by
      have hn : 0 < n := by omega
      apply Int.le_ediv_of_mul_le hn
      have h4 : (2 ^ 63 - 1 : Int) / 100 * n ≤ (2 ^ 63 - 1 : Int) / 100 * 100 := Int.mul_le_mul_of_nonneg_left h1 (by decide)
      have h5 : (2 ^ 63 - 1 : Int) / 100 * 100 ≤ 2 ^ 63 - 1 := by decide
      omega
    have h6 : (1000 : Int) ≤ (2 ^ 63 - 1) / 100 := by decide
    omega
  · have h4 : z.length * n.toNat ≤ 1000 * 100 := Nat.mul_le_mul h2 (by omega)
    unfold Builtin.Str.tooLong
    rw [decide_eq_false]
    rw [sizeLine_eq]
    omega
def gMul : AV → AV → AH → Res AV
  | .int i, .int j, M => if mulOk i j then .ok (.int (i * j)) M else .stuck
  | .str x, .int n, M => if 0 ≤ n ∧ n ≤ 100 ∧ x.length ≤ 1000 then .ok (.str (strMul x n)) M else .stuck
  | _, _, _ => .stuck
def rMulA : R2 := fun x y H Q => rI CMul (fun i j => .int (i * j)) x y H Q ∨ rI CMulW (fun i j => .int (i * j)) x y H Q ∨ ∃ z n, x = .str z ∧ y = .int n ∧ (0 ≤ n ∧ n ≤ 100 ∧ z.length ≤ 1000) ∧ Q (.str (strMul z n)) H
theorem x_mul {X : Cx} : OpR X (binaryOp .Mult) rMulA := op_mul.or (op_mulW.or op_mul_str)
theorem o_mul {C : Cm} : Op2 C rMulA gMul := fun i M H x y a b Q W s ra rb p => by
  cases ra with
  | int k =>
    cases rb with
    | int l =>
      obtain ⟨hc, p⟩ := post.need p
      have q := p.now s (.int _)
      rcases hc with hc | hc | ⟨h1, h2⟩
      · exact .inl ⟨k, l, rfl, rfl, .inl hc, q⟩
      · exact .inl ⟨k, l, rfl, rfl, .inr hc, q⟩
      · exact .inr (.inl ⟨k, l, rfl, rfl, wide_mul h1 h2 (by decide) (by decide) (by decide), q⟩)
    | _ => exact False.elim p
  | str k =>
    cases rb with
    | int l =>
      obtain ⟨hc, p⟩ := post.need p
      exact .inr (.inr ⟨k, l, rfl, rfl, hc, p.now s (.str _)⟩)
    | _ => exact False.elim p
  | _ => exact False.elim p
def gDiv : AV → AV → AH → Res AV
  | .int i, .int j, M => if j ≠ 0 ∧ j.natAbs < 1073741824 then .ok (.int (i.fdiv j)) M else .stuck
  | _, _, _ => .stuck
theorem o_div {C : Cm} : Op2 C (rI CDivN fun i j => .int (i.fdiv j)) gDiv := fun i M H x y a b Q W s ra rb p => by
  cases ra with
  | int k =>
    cases rb with
    | int l =>
      obtain ⟨hc, p⟩ := post.need p
      exact ⟨k, l, rfl, rfl, hc, p.now s (.int _)⟩
    | _ => exact False.elim p
  | _ => exact False.elim p
def gMod : AV → AV → AH → Res AV
  | .int i, .int j, M => if j ≠ 0 then .ok (.int (i.fmod j)) M else .stuck
  | _, _, _ => .stuck
theorem o_mod {C : Cm} : Op2 C (rI (fun _ j => j ≠ 0) fun i j => .int (i.fmod j)) gMod := fun i M H x y a b Q W s ra rb p => by
  cases ra with
  | int k =>
    cases rb with
    | int l =>
      obtain ⟨hc, p⟩ := post.need p
      exact ⟨k, l, rfl, rfl, hc, p.now s (.int _)⟩
    | _ => exact False.elim p
  | _ => exact False.elim p
def gPow : AV → AV → AH → Res AV
  | .int i, .int j, M => if 0 ≤ j ∧ j ≤ 1000000 ∧ i.natAbs < 2 ^ 64 then .ok (.int (i ^ j.toNat)) M else .stuck
  | _, _, _ => .stuck
theorem o_pow {C : Cm} : Op2 C (rI CPow fun i j => .int (i ^ j.toNat)) gPow := fun i M H x y a b Q W s ra rb p => by
  cases ra with
  | int k =>
    cases rb with
    | int l =>
      obtain ⟨hc, p⟩ := post.need p
      exact ⟨k, l, rfl, rfl, hc, p.now s (.int _)⟩
    | _ => exact False.elim p
  | _ => exact False.elim p
def gNeg : AV → AH → Res AV
  | .int i, M => .ok (.int (-i)) M
  | _, _ => .stuck
theorem o_neg {C : Cm} : Op1 C (rU fun i => .int (-i)) gNeg := fun i M H x a Q W s ra p => by
  cases ra with
  | int k => exact ⟨k, rfl, p.now s (.int _)⟩
  | _ => exact False.elim p
def gOrd (f : Int → Int → Bool) (g : List Nat → List Nat → Bool) : AV → AV → AH → Res AV
  | .int i, .int j, M => .ok (.bl (f i j)) M
  | .str x, .str y, M => .ok (.bl (g x.cps.toList y.cps.toList)) M
  | _, _, _ => .stuck
def rOrd (f : Int → Int → Bool) (g : List Nat → List Nat → Bool) : R2 := fun x y H Q => rI0 (fun i j => .bl (f i j)) x y H Q ∨ ∃ i j, x = .str i ∧ y = .str j ∧ Q (.bl (g i.cps.toList j.cps.toList)) H
theorem o_ord {C : Cm} {f : Int → Int → Bool} {g : List Nat → List Nat → Bool} : Op2 C (rOrd f g) (gOrd f g) := fun i M H x y a b Q W s ra rb p => by
  cases ra with
  | int k =>
    cases rb with
    | int l => exact .inl ⟨k, l, rfl, rfl, p.now s (.bl _)⟩
    | _ => exact False.elim p
  | str k =>
    cases rb with
    | str l => exact .inr ⟨k, l, rfl, rfl, p.now s (.bl _)⟩
    | _ => exact False.elim p
  | _ => exact False.elim p
abbrev gLt := gOrd (fun i j => decide (i < j)) (fun x y => decide (x < y))
abbrev gLe := gOrd (fun i j => decide (i ≤ j)) (fun x y => !decide (y < x))
abbrev gGt := gOrd (fun i j => decide (j < i)) (fun x y => decide (y < x))
abbrev gGe := gOrd (fun i j => decide (j ≤ i)) (fun x y => !decide (x < y))
theorem x_lt {X : Cx} : OpR X (compareOp .Lt) (rOrd (fun i j => decide (i < j)) (fun x y => decide (x < y))) := op_lt.or op_lt_str
theorem x_le {X : Cx} : OpR X (compareOp .LtE) (rOrd (fun i j => decide (i ≤ j)) (fun x y => !decide (y < x))) := op_le.or op_le_str
theorem x_gt {X : Cx} : OpR X (compareOp .Gt) (rOrd (fun i j => decide (j < i)) (fun x y => decide (y < x))) := op_gt.or op_gt_str
theorem x_ge {X : Cx} : OpR X (compareOp .GtE) (rOrd (fun i j => decide (j ≤ i)) (fun x y => !decide (x < y))) := op_ge.or op_ge_str
def mChain (g h : AV → AV → AH → Res AV) (ma mb mc : EM) : EM := fun G M => (ma G M).bind fun a M1 => (mb G M1).bind fun b M2 => (g a b M2).bind fun r M3 => match r with
  | .bl k => if k = true then (mc G M3).bind fun c M4 => h b c M4 else .ok (.bl false) M3
  | _ => .stuck
section
variable {X : Cx} {W : WX} {pos : Pos} {a b c : Expr} {ma mb mc : EM} {r r' : R2} {g h : AV → AV → AH → Res AV} {op op' : CmpOp}
theorem chain3 {C : Cm} {σ : St} {H : Hp} {Q : VK} (hg : Op2 C r g) (hh : Op2 C r' h) (q : tE C W (mChain g h ma mb mc) σ H Q) : tChain r r' (tE C W ma) (tE C W mb) (tE C W mc) σ H Q := by
  have h1 := tM.bind (R := RV C) (m := ma) (f := fun G a M1 => (mb G M1).bind fun b M2 => (g a b M2).bind fun r M3 => match r with
    | .bl k => if k = true then (mc G M3).bind fun c M4 => h b c M4 else .ok (AV.bl false) M3
    | _ => .stuck) q
  refine tM.imp h1 fun x H1 ⟨j, G, va, M, s, er, rr, p⟩ => ?_
  refine ⟨j, G, M, s, er, (post.bind (R := RV C) p).imp (fun y H2 ⟨k, vb, M2, e, s2, ry, p2⟩ => ?_) fun _ _ _ z => z⟩
  refine hg k M2 H2 x y va vb _ _ s2 (rr.mono e) ry ((post.bind (R := RV C) p2).imp (fun z H3 ⟨l, vr, M3, e3, s3, rz, p3⟩ => ?_) fun _ _ _ z => z)
  cases vr with
  | bl k' =>
    cases rz
    refine ⟨k', rfl, ?_⟩
    cases k' with
    | true =>
      rw [if_pos rfl]
      have p3 : post C (RV C) l H3 ((mc G M3).bind fun c M4 => h vb c M4) Q (fun c d H' => W c d σ H') := p3
      refine ⟨l, G, M3, s3, (er.mono e).mono e3, (post.bind (R := RV C) p3).imp (fun w H4 ⟨n, vc, M4, e4, s4, rw', p4⟩ => ?_) fun _ _ _ z => z⟩
      exact hh n M4 H4 y w vb vc Q _ s4 ((ry.mono e3).mono e4) rw' p4
    | false =>
      rw [if_neg Bool.false_ne_true]
      exact p3.now s3 (.bl false)
  | _ => exact False.elim p3
theorem e_chain (ho : OpR X (compareOp op) r) (ho' : OpR X (compareOp op') r') (hg : Op2 (cm X) r g) (hh : Op2 (cm X) r' h) (ha : PE X a (tE (cm X) W ma)) (hb : PE X b (tE (cm X) W mb)) (hc : PE X c (tE (cm X) W mc)) (hm : lastMarks [op, op'] [b, c] = false := by with_unfolding_all rfl) : PE X (.Compare a [op, op'] [b, c] pos) (tE (cm X) W (mChain g h ma mb mc)) :=
  PE.imp (pe_chain ho ho' ha hb hc hm) fun _ _ _ q => chain3 hg hh q
end
def rInDict (neg : Bool) : R2 := fun x y H Q => ∃ a ov, y = .ref a ∧ DGet H a x ov ∧ Q (.bl (if neg then !ov.isSome else ov.isSome)) H
theorem op_inDict {X : Cx} (hu : X.A.units + 1 < cLine) : OpR X (compareOp .In) (rInDict false) := by
  intro pins s σ H x y v u Q I rx ry h
  obtain ⟨a, ov, rfl, g, q⟩ := h
  cases ry
  exact d_in hu I g rx fun s' I' => ⟨.bl ov.isSome, H, I', rfl, q⟩
theorem op_notInDict {X : Cx} (hu : X.A.units + 1 < cLine) : OpR X (compareOp .NotIn) (rInDict true) := by
  intro pins s σ H x y v u Q I rx ry h
  obtain ⟨a, ov, rfl, g, q⟩ := h
  cases ry
  exact d_notIn hu I g rx fun s' I' => ⟨.bl (!ov.isSome), H, I', rfl, q⟩
def itemsOf (M : AH) : AV → Option (List AV)
  | .tup xs => some xs
  | .tuc xs => some xs
  | a => lstR M a
def inA (M : AH) (x y : AV) : Option Bool := match y with
  | .str z => match x with
    | .str w => match w.cps.toList with
      | [c] => some (decide (c ∈ z.cps.toList))
      | _ => none
    | _ => none
  | y => match dctK M y with
    | some kvs => (keyK x).map fun k => (getK kvs k).isSome
    | none => match dctT M y with
      | some kvs => (keyT x).map fun k => (getK kvs k).isSome
      | none => match itemsOf M y with
        | some xs => if plain 60 (top M x) && xs.all (plain 60) then some (xs.any fun z => aeq z (top M x)) else none
        | none => none
def gIn (neg : Bool) : AV → AV → AH → Res AV := fun x y M => match inA M x y with
  | some b => .ok (.bl (if neg then !b else b)) M
  | none => .stuck
def rSignIn (neg : Bool) : R2 := fun x y H Q => ∃ (c : Nat) (z : Str), x = .str ⟨#[c]⟩ ∧ y = .str z ∧ Q (.bl (if neg then !decide (c ∈ z.cps.toList) else decide (c ∈ z.cps.toList))) H
def rInA (K : PySem.W.Frag) (neg : Bool) : R2 := fun x y H Q => rSignIn neg x y H Q ∨ rInDict neg x y H Q ∨ rInP K neg x y H Q
theorem x_in {X : Cx} (hu : X.A.units + 64 < cLine) : OpR X (compareOp .In) (rInA X.K false) := (show OpR X (compareOp .In) (rSignIn false) from op_in_sign).or ((op_inDict (by omega)).or (op_inP hu))
theorem x_notIn {X : Cx} (hu : X.A.units + 64 < cLine) : OpR X (compareOp .NotIn) (rInA X.K true) := (show OpR X (compareOp .NotIn) (rSignIn true) from op_notIn_sign).or ((op_notInDict (by omega)).or (op_notInP hu))
theorem seqD_at {K : PySem.W.Frag} {T : List (Addr × Str)} {i : Ix} {M : AH} {H : Hp} {v : V} {a : AV} {xs : List AV} (s : Sim K T i M H) (r : VR K i H v a) (h : itemsOf M a = some xs) (p : xs.all (plain 60) = true) : SeqD K H v (toDs xs) := by
  by_cases ht : ∃ ys, a = .tup ys
  · obtain ⟨ys, rfl⟩ := ht
    have h' : ys = xs := Option.some.inj h
    subst h'
    cases r with
    | tup h1 _ h2 => exact .tup (sq_of h1) (dps_of _ 60 _ p h2)
  by_cases hu : ∃ ys, a = .tuc ys
  · obtain ⟨ys, rfl⟩ := hu
    have h' : ys = xs := Option.some.inj h
    subst h'
    cases r with
    | tuc h1 h2 => exact .tup h1.sq (dps_of _ 60 _ p h2)
  · have h' : lstR M a = some xs := by
      cases a <;> first | exact h | exact absurd ⟨_, rfl⟩ ht | exact absurd ⟨_, rfl⟩ hu
    obtain ⟨q, us, rfl, h1, h2⟩ := lstR_at s r h'
    exact .lst h1 (dps_of _ 60 _ p h2)
theorem any_toDs (f : PyData → Bool) : ∀ xs : List AV, (toDs xs).any f = xs.any fun x => f (toD x)
  | [] => rfl
  | x :: xs => by rw [toDs, List.any_cons, List.any_cons, any_toDs f xs]
theorem o_in {C : Cm} {neg : Bool} : Op2 C (rInA C.K neg) (gIn neg) := fun i M H x y a b Q W s ra rb p => by
  unfold gIn at p
  cases e : inA M a b with
  | none => rw [e] at p; exact False.elim p
  | some k =>
    rw [e] at p
    have q := p.now s (.bl _)
    by_cases hs : ∃ z, b = .str z
    · obtain ⟨z, rfl⟩ := hs
      cases rb
      simp only [inA] at e
      cases ra with
      | str w =>
        simp only at e
        split at e
        · rename_i c hc
          have e' := Option.some.inj e
          subst e'
          have hw : w = ⟨#[c]⟩ := by
            cases w
            congr 1
            exact Array.toList_inj.mp hc
          subst hw
          exact .inl ⟨c, z, rfl, rfl, q⟩
        · cases e
      | _ => cases e
    · have e : (match dctK M b with
        | some kvs => (keyK a).map fun k => (getK kvs k).isSome
        | none => match dctT M b with
          | some kvs => (keyT a).map fun k => (getK kvs k).isSome
          | none => match itemsOf M b with
            | some xs => if plain 60 (top M a) && xs.all (plain 60) then some (xs.any fun z => aeq z (top M a)) else none
            | none => none) = some k := by
        cases b <;> first | exact e | exact absurd ⟨_, rfl⟩ hs
      cases e1 : dctK M b with
      | some kvs =>
        rw [e1] at e
        obtain ⟨pa, n, us, rfl, _, hn, _, hd, _, hr⟩ := dctK_at s rb e1
        cases ek : keyK a with
        | none => rw [ek] at e; cases e
        | some kk =>
          rw [ek] at e
          have e' : (getK kvs kk).isSome = k := Option.some.inj e
          rw [keyK_at ra ek]
          refine .inr (.inl ⟨pa, valV us kk, rfl, .inl ⟨us, kk, hd, rfl, rfl⟩, ?_⟩)
          have : (valV us kk).isSome = k := by
            rw [← e']
            rcases hr.get (k := kk) with ⟨h1, h2⟩ | ⟨v, a', h1, h2, _⟩
            · rw [h1, h2]; rfl
            · rw [h1, h2]; rfl
          rw [this]
          exact q
      | none =>
        rw [e1] at e
        cases e2 : dctT M b with
        | some kvs =>
          simp only [e2] at e
          obtain ⟨pa, n, us, rfl, _, hn, _, hd, _, hr⟩ := dctT_at s rb e2
          cases ek : keyT a with
          | none => rw [ek] at e; cases e
          | some kk =>
            rw [ek] at e
            have e' : (getK kvs kk).isSome = k := Option.some.inj e
            obtain ⟨pb, rfl, hb⟩ := keyT_at ra ek
            refine .inr (.inl ⟨pa, valV us kk, rfl, .inr ⟨us, kk, pb, hd, rfl, hb, rfl⟩, ?_⟩)
            have : (valV us kk).isSome = k := by
              rw [← e']
              rcases hr.get (k := kk) with ⟨h1, h2⟩ | ⟨v, a', h1, h2, _⟩
              · rw [h1, h2]; rfl
              · rw [h1, h2]; rfl
            rw [this]
            exact q
        | none =>
          simp only [e2] at e
          cases e3 : itemsOf M b with
          | none => rw [e3] at e; cases e
          | some xs =>
            simp only [e3] at e
            by_cases hp : (plain 60 (top M a) && xs.all (plain 60)) = true
            · rw [if_pos hp] at e
              have e' := Option.some.inj e
              rw [Bool.and_eq_true] at hp
              refine .inr (.inr ⟨_, _, dp_top s ra hp.1, seqD_at s rb e3 hp.2, pdl_of _ _ hp.1, ?_, ?_⟩)
              · rw [toDs_map, List.all_map, List.all_eq_true]
                exact fun z hz => pdl_of _ _ (List.all_eq_true.mp hp.2 z hz)
              · rw [any_toDs]
                have : (xs.any fun z => PyData.eqv (toD z) (toD (top M a))) = k := e'
                rw [this]
                exact q
            · rw [if_neg hp] at e
              cases e
end Mx

namespace Mx
open PySem L2 PySem.Spec
theorem VRs.ix {K : PySem.W.Frag} {i : Ix} {H : Hp} {vs : List V} {as : List AV} {k : Int} {a : AV} (r : VRs K i H vs as) (h : atI as k = some a) : ∃ v, atI vs k = some v ∧ VR K i H v a := by
  unfold atI at h ⊢
  rw [r.len]
  cases e : ixN as.length k with
  | none => rw [e] at h; cases h
  | some j =>
    rw [e] at h
    exact r.at h
def ixO (M : AH) (a b : AV) : Option AV := match dctK M a with
  | some kvs => (keyK b).bind (getK kvs)
  | none => match dctT M a with
    | some kvs => (keyT b).bind (getK kvs)
    | none => match itemsOf M a, b with
      | some xs, .int i => atI xs i
      | _, _ => none
def ixA (M : AH) : AV → AV → Option AV
  | .str z, .int i => if z.length ≤ 16777216 then (atI z.cps.toList i).map fun c => .str ⟨#[c]⟩ else none
  | a, b => ixO M a b
def gIx : AV → AV → AH → Res AV := fun a b M => match ixA M a b with
  | some v => .ok v M
  | none => .stuck
def rIxD : R2 := fun x y H Q => ∃ a v, x = .ref a ∧ DGet H a y (some v) ∧ Q v H
theorem ix_dict {X : Cx} (hu : X.A.units + 1 < cLine) : IxR X rIxD := by
  intro value slice pins s σ H x y v u Q I rx ry h hs
  obtain ⟨a, z, rfl, g, q⟩ := h
  cases rx
  exact PyProof.Rows.tail_any (dict_typeIs I g) PySem.F.slot_dict_getitem.lookup (d_getItem hu I g ry fun w' s' I' rw' => ⟨z, H, I', rw', q⟩) hs
def rIxA (K : PySem.W.Frag) : R2 := fun x y H Q => rIx K x y H Q ∨ rIxD x y H Q
theorem x_ix {X : Cx} (hu : X.A.units + 1 < cLine) : IxR X (rIxA X.K) := ix_seq.or (ix_dict hu)
theorem itemsOf_at {K : PySem.W.Frag} {T : List (Addr × Str)} {i : Ix} {M : AH} {H : Hp} {v : V} {a : AV} {xs : List AV} (s : Sim K T i M H) (r : VR K i H v a) (h : itemsOf M a = some xs) : ∃ p us, v = .ref p ∧ (SqL K H p us ∨ SqT K H p us) ∧ VRs K i H us xs := by
  by_cases ht : ∃ ys, a = .tup ys
  · obtain ⟨ys, rfl⟩ := ht
    have h' : ys = xs := Option.some.inj h
    subst h'
    cases r with
    | tup h1 _ h2 => exact ⟨_, _, rfl, .inr (sq_of h1), h2⟩
  by_cases hu : ∃ ys, a = .tuc ys
  · obtain ⟨ys, rfl⟩ := hu
    have h' : ys = xs := Option.some.inj h
    subst h'
    cases r with
    | tuc h1 h2 => exact ⟨_, _, rfl, .inr h1.sq, h2⟩
  · have h' : lstR M a = some xs := by
      cases a <;> first | exact h | exact absurd ⟨_, rfl⟩ ht | exact absurd ⟨_, rfl⟩ hu
    obtain ⟨q, us, rfl, h1, h2⟩ := lstR_at s r h'
    exact ⟨_, _, rfl, .inl h1, h2⟩
theorem o_ix {C : Cm} : Op2 C (rIxA C.K) gIx := fun i M H x y a b Q W s ra rb p => by
  unfold gIx at p
  cases e : ixA M a b with
  | none => rw [e] at p; exact False.elim p
  | some w =>
    rw [e] at p
    have key : ixO M a b = some w → rIxA C.K x y H Q := fun e => by
      unfold ixO at e
      cases e1 : dctK M a with
      | some kvs =>
        rw [e1] at e
        obtain ⟨pa, n, us, rfl, _, hn, _, hd, _, hr⟩ := dctK_at s ra e1
        cases ek : keyK b with
        | none => rw [ek] at e; cases e
        | some kk =>
          rw [ek] at e
          have e : getK kvs kk = some w := e
          rw [keyK_at rb ek]
          rcases hr.get (k := kk) with ⟨h1, h2⟩ | ⟨v, a', h1, h2, h3⟩
          · rw [h2] at e; cases e
          · rw [h2] at e
            cases e
            exact .inr ⟨pa, v, rfl, .inl ⟨us, kk, hd, rfl, h1.symm⟩, p.now s h3⟩
      | none =>
        rw [e1] at e
        cases e2 : dctT M a with
        | some kvs =>
          simp only [e2] at e
          obtain ⟨pa, n, us, rfl, _, hn, _, hd, _, hr⟩ := dctT_at s ra e2
          cases ek : keyT b with
          | none => rw [ek] at e; cases e
          | some kk =>
            rw [ek] at e
            have e : getK kvs kk = some w := e
            obtain ⟨pb, rfl, hb⟩ := keyT_at rb ek
            rcases hr.get (k := kk) with ⟨h1, h2⟩ | ⟨v, a', h1, h2, h3⟩
            · rw [h2] at e; cases e
            · rw [h2] at e
              cases e
              exact .inr ⟨pa, v, rfl, .inr ⟨us, kk, pb, hd, rfl, hb, h1.symm⟩, p.now s h3⟩
        | none =>
          simp only [e2] at e
          cases e3 : itemsOf M a with
          | none => rw [e3] at e; cases e
          | some xs =>
            rw [e3] at e
            cases b with
            | int k =>
              have e : atI xs k = some w := e
              cases rb
              obtain ⟨q, us, rfl, h1, h2⟩ := itemsOf_at s ra e3
              obtain ⟨v, h3, h4⟩ := h2.ix e
              rcases h1 with h1 | h1
              · exact .inl (.inl ⟨q, us, k, v, rfl, rfl, h1, h3, p.now s h4⟩)
              · exact .inl (.inr (.inl ⟨q, us, k, v, rfl, rfl, h1, h3, p.now s h4⟩))
            | _ => cases e
    by_cases hs : ∃ z k, a = .str z ∧ b = .int k
    · obtain ⟨z, k, rfl, rfl⟩ := hs
      cases ra
      cases rb
      simp only [ixA] at e
      by_cases hz : z.length ≤ 16777216
      · rw [if_pos hz] at e
        cases ec : atI z.cps.toList k with
        | none => rw [ec] at e; cases e
        | some c =>
          rw [ec] at e
          cases e
          exact .inl (.inr (.inr ⟨z, k, c, rfl, rfl, by rw [sizeLine_eq]; exact hz, ec, p.now s (.str _)⟩))
      · rw [if_neg hz] at e
        cases e
    · refine key ?_
      cases a with
      | str z =>
        cases b with
        | int k => exact absurd ⟨z, k, rfl, rfl⟩ hs
        | _ => exact e
      | _ => exact e
section
variable {X : Cx} {W : WX} {pos : Pos} {a b : Expr} {ma mb : EM}
theorem e_ix (hu : X.A.units + 1 < cLine) (ha : PE X a (tE (cm X) W ma)) (hb : PE X b (tE (cm X) W mb)) (hs : PlainIx b := by intro _ _; rfl) : PE X (.Subscript a b pos) (tE (cm X) W (mBin gIx ma mb)) :=
  PE.imp (pe_ix (x_ix hu) ha hb hs) fun _ _ _ h => bin2 o_ix h
end
def cutA (xs : List AV) (lo hi : Option Int) : List AV := (xs.drop (HT.sIx xs.length 0 lo)).take (HT.sIx xs.length xs.length hi - HT.sIx xs.length 0 lo)
theorem VRs.drop {K : PySem.W.Frag} {i : Ix} {H : Hp} : ∀ {vs : List V} {as : List AV} (n : Nat), VRs K i H vs as → VRs K i H (vs.drop n) (as.drop n)
  | _, _, 0, h => h
  | _, _, _ + 1, .nil => .nil
  | _, _, n + 1, .cons _ t => VRs.drop n t
theorem VRs.take {K : PySem.W.Frag} {i : Ix} {H : Hp} : ∀ {vs : List V} {as : List AV} (n : Nat), VRs K i H vs as → VRs K i H (vs.take n) (as.take n)
  | _, _, 0, _ => .nil
  | _, _, _ + 1, .nil => .nil
  | _, _, n + 1, .cons r t => .cons r (VRs.take n t)
theorem VRs.reverse {K : PySem.W.Frag} {i : Ix} {H : Hp} : ∀ {vs : List V} {as : List AV}, VRs K i H vs as → VRs K i H vs.reverse as.reverse
  | _, _, .nil => .nil
  | _, _, .cons r t => by
    rw [List.reverse_cons, List.reverse_cons]
    exact VRs.app (.cons r .nil) (VRs.reverse t)
theorem VRs.cut' {K : PySem.W.Frag} {i : Ix} {H : Hp} {vs : List V} {as : List AV} (lo hi : Option Int) (r : VRs K i H vs as) : VRs K i H (cutV vs lo hi) (cutA as lo hi) := by
  unfold cutV cutA
  rw [r.len]
  exact (r.drop _).take _
abbrev tO (C : Cm) (W : WX) (m : OM) : TO := tM C W RO m
def mNoPart : OM := fun _ M => .ok none M
def mPart (m : EM) : OM := fun G M => (m G M).bind fun a M1 => match a with
  | .int i => .ok (some i) M1
  | _ => .stuck
section
variable {X : Cx} {W : WX} {pos p2 : Pos} {e : Expr} {m : EM} {lo hi : Option Expr} {ml mh : OM}
theorem o_none : PO X none (tO (cm X) W mNoPart) := ⟨fun pins s σ H Q I ⟨i, G, M, sm, r, p⟩ => po_none.run pins s σ H Q I (p.now sm rfl)⟩
theorem o_some (h : PE X e (tE (cm X) W m)) : PO X (some e) (tO (cm X) W (mPart m)) := ⟨fun pins s σ H Q I q => (po_some h).run pins s σ H Q I (by
  have h1 := tM.bind (R := RV (cm X)) (m := m) (f := fun G a M1 => match a with | AV.int i => Res.ok (some i) M1 | _ => .stuck) q
  refine tM.imp h1 fun x H1 ⟨j, G, a, M, s, r, rr, p⟩ => ?_
  cases rr with
  | int k => exact ⟨k, rfl, p.now s rfl⟩
  | _ => exact False.elim p)⟩
def mSl (g : AV → Option Int → Option Int → AH → Res AV) (m : EM) (ml mh : OM) : EM := fun G M => (m G M).bind fun a M1 => (ml G M1).bind fun l M2 => (mh G M2).bind fun h M3 => g a l h M3
def gSl : AV → Option Int → Option Int → AH → Res AV
  | .str z, l, h, M => if z.length ≤ 16777216 then .ok (.str (cutS z l h)) M else .stuck
  | .tup xs, l, h, M => .ok (.tup (cutA xs l h)) M
  | .tuc xs, l, h, M => .ok (if HT.sIx xs.length 0 l = 0 ∧ HT.sIx xs.length xs.length h = xs.length then .tuc xs else .tup (cutA xs l h)) M
  | a, l, h, M => match lstR M a with
    | some xs => .ok (.lst (cutA xs l h)) M
    | none => .stuck
def rSlAll (K : PySem.W.Frag) : V → Option Int → Option Int → Hp → VK → Prop := fun x lo hi H Q => rSlS x lo hi H Q ∨ rSlA K x lo hi H Q ∨ rSlL K x lo hi H Q
theorem x_sl : SlR X (rSlAll X.K) := SlR.or sl_str (SlR.or sl_tupA sl_list)
def Op3 (C : Cm) (r : V → Option Int → Option Int → Hp → VK → Prop) (g : AV → Option Int → Option Int → AH → Res AV) : Prop := ∀ i M H x a l h Q W, Sim C.K C.tb i M H → VR C.K i H x a → post C (RV C) i H (g a l h M) Q W → r x l h H Q
theorem cutA_whole (xs : List AV) (lo hi : Option Int) (h : HT.sIx xs.length 0 lo = 0 ∧ HT.sIx xs.length xs.length hi = xs.length) : cutA xs lo hi = xs := by
  unfold cutA
  rw [h.1, h.2, List.drop_zero, Nat.sub_zero, List.take_length]
theorem o_sl {C : Cm} : Op3 C (rSlAll C.K) gSl := fun i M H x a l h Q W s ra p => by
  have lst : (p' : post C (RV C) i H (match lstR M a with | some xs => .ok (.lst (cutA xs l h)) M | none => .stuck) Q W) → rSlAll C.K x l h H Q := fun p' => by
    cases e : lstR M a with
    | none => rw [e] at p'; exact False.elim p'
    | some xs =>
      rw [e] at p'
      obtain ⟨q, us, rfl, h1, h2⟩ := lstR_at s ra e
      exact .inr (.inr ⟨q, us, rfl, h1, new_lst s (h2.cut' l h) p'⟩)
  cases ra with
  | str z =>
    obtain ⟨hz, p⟩ := post.need p
    exact .inl ⟨z, rfl, by rw [sizeLine_eq]; exact hz, p.now s (.str _)⟩
  | @tup q us as h1 n1 r1 =>
    refine .inr (.inl ⟨q, us, rfl, sq_of h1, fun hw => ?_, fun _ => new_tup s (r1.cut' l h) p⟩)
    rw [r1.len] at hw
    have p : post C (RV C) i H (.ok (.tup (cutA as l h)) M) Q W := p
    rw [cutA_whole as l h hw] at p
    exact p.now s (.tup h1 n1 r1)
  | @tuc q us as h1 r1 =>
    have p : post C (RV C) i H (.ok (if HT.sIx as.length 0 l = 0 ∧ HT.sIx as.length as.length h = as.length then .tuc as else .tup (cutA as l h)) M) Q W := p
    refine .inr (.inl ⟨q, us, rfl, h1.sq, fun hw => ?_, fun hw => ?_⟩)
    · rw [r1.len] at hw
      rw [if_pos hw] at p
      exact p.now s (.tuc h1 r1)
    · rw [r1.len] at hw
      rw [if_neg hw] at p
      exact new_tup s (r1.cut' l h) p
  | _ => exact lst p
theorem sl3 {C : Cm} {r : V → Option Int → Option Int → Hp → VK → Prop} {g : AV → Option Int → Option Int → AH → Res AV} {σ : St} {H : Hp} {Q : VK} (hg : Op3 C r g) (q : tE C W (mSl g m ml mh) σ H Q) : tSl r (tE C W m) (tO C W ml) (tO C W mh) σ H Q := by
  have h1 := tM.bind (R := RV C) (m := m) (f := fun G a M1 => (ml G M1).bind fun l M2 => (mh G M2).bind fun h M3 => g a l h M3) q
  refine tM.imp h1 fun x H1 ⟨j, G, a, M, s, er, rr, p⟩ => ?_
  refine ⟨j, G, M, s, er, (post.bind (R := RO) p).imp (fun l H2 ⟨k, l', M2, e2, s2, rl, p2⟩ => ?_) fun _ _ _ z => z⟩
  have rl' : l = l' := rl
  subst rl'
  refine ⟨k, G, M2, s2, er.mono e2, (post.bind (R := RO) p2).imp (fun u H3 ⟨n, u', M3, e3, s3, ru, p3⟩ => ?_) fun _ _ _ z => z⟩
  have ru' : u = u' := ru
  subst ru'
  exact hg n M3 H3 x a l u Q _ s3 ((rr.mono e2).mono e3) p3
theorem e_sl (he : PE X e (tE (cm X) W m)) (hl : PO X lo (tO (cm X) W ml)) (hh : PO X hi (tO (cm X) W mh)) : PE X (.Subscript e (.Slice lo hi none p2) pos) (tE (cm X) W (mSl gSl m ml mh)) :=
  PE.imp (pe_slice x_sl he hl hh) fun _ _ _ h => sl3 o_sl h
end
section
variable {prog : Program} {w : World} {A : Around} {E : Value → Shared → Prop} {s : Shared}
theorem slice_rev {sl : Addr} {vl vu vs : Value} {n : Nat} {Q : Int × Int × Nat → Shared → Prop} (hs : s.heap.IsSliceOf sl vl vu vs) (pl : IsPart vl none) (pu : IsPart vu none) (ps : IsPart vs (some (-1)))
    (h : Q ((n : Int) - 1, -1, n) s) : wpAny (model prog w) A (Builtin.Slice.sliceApplied (.ref sl) (pure (n : Int))) Q E s := by
  obtain ⟨os, hos, hcs, hds⟩ := id hs
  unfold Builtin.Slice.sliceApplied Builtin.Slice.sliceFields
  refine wpAny_bind (wpAny_bind (wpAny_field hos hds (x := vl) rfl (wpAny_bind (wpAny_field hos hds (x := vu) rfl (wpAny_bind (wpAny_field hos hds (x := vs) rfl (wpAny_pure ?_)))))))
  refine wpAny_bind (HT.slicePart_ ps ?_)
  show wpAny _ _ (if ((-1 : Int) == 0) = true then _ else _) _ _ s
  rw [if_neg (by decide)]
  refine wpAny_bind (HT.slicePart_ pl (wpAny_bind (HT.slicePart_ pu (wpAny_bind (wpAny_pure ?_)))))
  have e1 : Builtin.Slice.sliceAdjust none none (-1) (n : Int) = ((n : Int) - 1, -1) := by
    unfold Builtin.Slice.sliceAdjust
    simp
  have e2 : Builtin.Slice.slicePlaces ((n : Int) - 1) (-1) (-1) = n := by
    unfold Builtin.Slice.slicePlaces
    simp only [show ¬ ((-1 : Int) > 0) by omega, if_false, Int.neg_neg, Int.ediv_one]
    split <;> omega
  show wpAny _ _ (match Builtin.Slice.sliceAdjust none none (-1) (n : Int) with | (lo, hi) => pure (lo, (-1 : Int), Builtin.Slice.slicePlaces lo hi (-1))) _ _ s
  rw [e1]
  show wpAny _ _ (pure ((n : Int) - 1, (-1 : Int), Builtin.Slice.slicePlaces ((n : Int) - 1) (-1) (-1))) _ _ s
  rw [e2]
  exact wpAny_pure h
theorem pick_rev (xs : Array Value) : ((List.range xs.size).filterMap fun (m : Nat) => xs[((xs.size : Int) - 1 + (m : Int) * -1).toNat]?).toArray = xs.toList.reverse.toArray := by
  congr 1
  have e : ∀ m ∈ List.range xs.size, (fun (m : Nat) => xs[((xs.size : Int) - 1 + (m : Int) * -1).toNat]?) m = xs.toList.reverse[m]? := fun m hm => by
    have hm := List.mem_range.mp hm
    have : ((xs.size : Int) - 1 + (m : Int) * -1).toNat = xs.size - 1 - m := by omega
    show xs[((xs.size : Int) - 1 + (m : Int) * -1).toNat]? = _
    rw [this, List.getElem?_reverse (by simpa using hm)]
    simp
  have e3 : ∀ (l : List Value), (List.range l.length).filterMap (fun m => l[m]?) = l := fun l => by
    apply List.ext_getElem?
    intro k
    induction l generalizing k with
    | nil => simp
    | cons a l ih =>
      rw [List.length_cons, List.range_succ_eq_map, List.filterMap_cons]
      simp only [List.getElem?_cons_zero, List.filterMap_map]
      cases k with
      | zero => simp
      | succ k =>
        simp only [List.getElem?_cons_succ]
        have := ih k
        simpa [Function.comp_def] using this
  have h2 := e3 xs.toList.reverse
  rw [List.length_reverse, Array.length_toList] at h2
  rw [← h2]
  have : ∀ (l : List Nat) (f g : Nat → Option Value), (∀ m ∈ l, f m = g m) → l.filterMap f = l.filterMap g := fun l f g h => by
    induction l with
    | nil => rfl
    | cons a l ih =>
      rw [List.filterMap_cons, List.filterMap_cons, h a List.mem_cons_self, ih fun m hm => h m (List.mem_cons_of_mem _ hm)]
  rw [h2]
  refine (this _ _ _ e).trans h2
open PyProof.Rows in
theorem getItem_tuple_rev {t sl : Addr} {items : Array Value} {vl vu vs : Value} {Q : Value → Shared → Prop} (ht : IsTup s.heap t items) (hs : s.heap.IsSliceOf sl vl vu vs) (pl : IsPart vl none) (pu : IsPart vu none) (ps : IsPart vs (some (-1)))
    (h : Q (.ref s.heap.objs.size) { s with heap := s.heap.push { cls := .type "tuple", data := .seq items.toList.reverse.toArray } })
    (hsz : items.size ≤ sizeLine) : wpAny (model prog w) A (getItem (.ref t) (.ref sl)) Q E s := by
  have htake : sizeOk (.seq items.toList.reverse.toArray) := by
    show items.toList.reverse.toArray.size ≤ sizeLine
    rw [List.size_toArray, List.length_reverse, Array.length_toList]
    exact hsz
  obtain ⟨os, hos, hcs, hds⟩ := id hs
  have hTs : s.TypeIs (.ref sl) "slice" := ⟨os, hos, hcs⟩
  unfold getItem
  try with_reducible refine wpAny_holding ?_
  first | refine wpAny_bind (wpAny_pure ?_) | skip
  refine wpAny_bind (wpAny_sequenceKey ht.typeIs (by decide) ?_)
  refine wpAny_bind (wpAny_callSpecial?_slot (name := Str.ofString "__getitem__") ht.typeIs PyProof.Rows.slot_tuple_getitem
    (wpAny_call_entry PyProof.Rows.slot_tuple_getitem ht.typeIs PyProof.Rows.entry_tuple_getitem ?_ (PyProof.Rows.args_tuple_getitem _ _)))
  show wpAny _ _ (Builtin.Tuple.tupleItemsOf (.ref t) >>= _) _ _ s
  refine wpAny_bind (PyProof.Rows.tupleItemsOf_ ht ?_)
  refine wpAny_bind (wpAny_typeOf hTs ?_)
  rw [if_pos (by decide)]
  refine wpAny_bind (slice_rev hs pl pu ps ?_)
  have hno : ¬ ((((items.size : Int) - 1 == 0) && ((-1 : Int) == 1) && (items.size == items.size)) = true) := by
    intro q
    rw [Bool.and_eq_true, Bool.and_eq_true] at q
    exact absurd q.1.2 (by decide)
  show wpAny _ _ (if (((items.size : Int) - 1 == 0) && ((-1 : Int) == 1) && (items.size == items.size)) = true then _ else _) _ _ s
  rw [if_neg hno, pick_rev]
  first
    | exact wpAny_bind (m := Builtin.Tuple.tupleExact _) (wpAny_newObj_type (wpAny_pure ⟨_, rfl, wpAny_pure h⟩) htake)
    | exact wpAny_bind (m := Builtin.Tuple.tupleExact _) (wpAny_newObj_type (wpAny_bind (wpAny_pure (wpAny_pure ⟨_, rfl, wpAny_pure h⟩))) htake)
    | exact wpAny_bind (wpAny_bind (m := Builtin.Tuple.tupleExact _) (wpAny_newObj_type (wpAny_pure (wpAny_pure ⟨_, rfl, wpAny_pure h⟩)) htake))
    | exact wpAny_bind (wpAny_bind (m := Builtin.Tuple.tupleExact _) (wpAny_newObj_type (wpAny_pure ⟨_, rfl, wpAny_pure h⟩) htake))
end
def rStep (K : PySem.W.Frag) : R2 := fun x y H Q => ∃ (a : Addr) (xs : List V), x = .ref a ∧ ((SqL K H a xs ∧ ((y = .int 1 ∧ ∀ p, H p = none → Q (.ref p) (upd H p (.lst xs))) ∨ (y = .int (-1) ∧ ∀ p, H p = none → Q (.ref p) (upd H p (.lst xs.reverse))))) ∨
  (SqT K H a xs ∧ y = .int (-1) ∧ ∀ p, H p = none → Q (.ref p) (upd H p (.tup xs.reverse))))
theorem slicePick_one (items : Array Value) : slicePick items none none (some 1) = items := by
  have h := slicePick_cut items.toList none none
  have e : slicePick items none none (some 1) = slicePick items.toList.toArray none none none := by
    simp [slicePick, sliceBounds]
  rw [e, h]
  simp only [HT.sIx, List.drop_zero, Nat.sub_zero, List.take_length]
theorem pe_step {X : Cx} {e st : Expr} {te ts : TE} {p3 pos : Pos} (he : PE X e te) (hst : PE X st ts) : PE X (.Subscript e (.Slice none none (some st) p3) pos) (tOp (rStep X.K) te ts) := by
  refine ⟨fun pins s σ H Q I h => ?_⟩
  refine PyProof.Rows.Subscript_ (thn (he.run pins s σ H _ I h) fun v s1 ⟨x, H1, I1, r1, q1⟩ => ?_)
  refine wpAny_Slice (thn (po_none.run pins s1 σ H1 (fun o H2 => o = none ∧ H2 = H1) I1 ⟨rfl, rfl⟩) fun vl s2 ⟨l, H2, I2, pl, el, e2⟩ => ?_)
  subst el e2
  refine thn (po_none.run pins s2 σ H2 (fun o H3 => o = none ∧ H3 = H2) I2 ⟨rfl, rfl⟩) fun vu s3 ⟨u, H3, I3, pu, eu, e3⟩ => ?_
  subst eu e3
  rw [evalPart_some]
  refine thn (hst.run pins s3 σ H3 _ I3 q1) fun vs s4 ⟨y, H4, I4, r4, q4⟩ => ?_
  obtain ⟨a, xs, rfl, q4⟩ := q4
  cases r1
  have I5 : Inv X pins σ H4 { s4 with heap := s4.heap.push { cls := .type "slice", data := .fields #[vl, vu, vs] } } := I4.kept (t' := s4.toks) fun b ob q => Heap.get?_push_of_some _ q
  show wpAny (model X.prog X.w) X.A (PyProof.Rows.subscriptTail e (.Slice none none (some st) p3) (.ref a) (.ref s4.heap.objs.size)) (EP X pins σ Q) X.xe { s4 with heap := s4.heap.push { cls := .type "slice", data := .fields #[vl, vu, vs] } }
  rcases q4 with ⟨hx, q4⟩ | ⟨hx, rfl, q⟩
  · obtain ⟨its, r, ht, hz⟩ := I5.list hx
    have hlen := r.length
    refine PyProof.Rows.tail_any (ops := [.ref a, .ref s4.heap.objs.size]) ht.isList.typeIs (PySem.slot_list_getitem.lookup) ?_ (by with_unfolding_all rfl)
    rcases q4 with ⟨rfl, q⟩ | ⟨rfl, q⟩
    · obtain ⟨t, rfl⟩ := r4
      refine wpAny_getItem_list_slice ht.isList (Heap.IsSliceOf.new _ vl vu _) pl pu (.int 1 t) (by decide) ?_ (by rw [List.size_toArray]; omega)
      rw [slicePick_one]
      refine ⟨.ref _, _, I5.laid (t' := s4.toks) (o := .lst xs) (fun b ob q => Heap.get?_push_of_some _ q) (Nat.le_refl _) ?_, rfl, q _ (I5.hok.fresh (Nat.le_refl _))⟩
      exact ⟨hz, _, 0, r, Heap.get?_push_size _ rfl⟩
    · obtain ⟨t, rfl⟩ := r4
      refine wpAny_getItem_list_slice ht.isList (Heap.IsSliceOf.new _ vl vu _) pl pu (.int (-1) t) (by decide) ?_ (by rw [List.size_toArray]; omega)
      rw [PySem.W.krv_pick]
      refine ⟨.ref _, _, I5.laid (t' := s4.toks) (o := .lst xs.reverse) (fun b ob q => Heap.get?_push_of_some _ q) (Nat.le_refl _) ?_, rfl, q _ (I5.hok.fresh (Nat.le_refl _))⟩
      exact ⟨by rw [List.length_reverse]; exact hz, _, 0, r.reverse, Heap.get?_push_size _ rfl⟩
  · obtain ⟨its, r, ht, hz⟩ := I5.tuple hx
    have hlen := r.length
    obtain ⟨t, rfl⟩ := r4
    refine PyProof.Rows.tail_any (ops := [.ref a, .ref s4.heap.objs.size]) ht.typeIs (PyProof.Rows.slot_tuple_getitem.lookup) ?_ (by with_unfolding_all rfl)
    refine getItem_tuple_rev ht (Heap.IsSliceOf.new _ vl vu _) pl pu (.int (-1) t) ?_ (by rw [List.size_toArray]; omega)
    refine ⟨.ref _, _, I5.laid (t' := s4.toks) (o := .tup xs.reverse) (fun b ob q => Heap.get?_push_of_some _ q) (Nat.le_refl _) ?_, rfl, q _ (I5.hok.fresh (Nat.le_refl _))⟩
    exact ⟨by rw [List.length_reverse]; exact hz, _, r.reverse, PyProof.Rows.IsTup.new _ _⟩
def gStep : AV → AV → AH → Res AV := fun a b M => match b with
  | .int k => match a with
    | .tup xs => if k = -1 then .ok (.tup xs.reverse) M else .stuck
    | a => match lstR M a with
      | some xs => if k = 1 then .ok (.lst xs) M else if k = -1 then .ok (.lst xs.reverse) M else .stuck
      | none => .stuck
  | _ => .stuck
theorem o_step {C : Cm} : Op2 C (rStep C.K) gStep := fun i M H x y a b Q W s ra rb p => by
  cases rb with
  | int k =>
    have lst : (p' : post C (RV C) i H (match lstR M a with
      | some xs => if k = 1 then .ok (.lst xs) M else if k = -1 then .ok (.lst xs.reverse) M else .stuck
      | none => .stuck) Q W) → rStep C.K x (.int k) H Q := fun p' => by
      cases e : lstR M a with
      | none => rw [e] at p'; exact False.elim p'
      | some xs =>
        rw [e] at p'
        obtain ⟨q, us, rfl, h1, h2⟩ := lstR_at s ra e
        by_cases h : k = 1
        · subst h
          exact ⟨q, us, rfl, .inl ⟨h1, .inl ⟨rfl, new_lst s h2 p'⟩⟩⟩
        · simp only [if_neg h] at p'
          obtain ⟨h, p'⟩ := post.need p'
          subst h
          exact ⟨q, us, rfl, .inl ⟨h1, .inr ⟨rfl, new_lst s h2.reverse p'⟩⟩⟩
    cases ra with
    | @tup q us as h1 n1 r1 =>
      obtain ⟨h, p⟩ := post.need p
      subst h
      exact ⟨q, us, rfl, .inr ⟨sq_of h1, rfl, new_tup s r1.reverse p⟩⟩
    | _ => exact lst p
  | _ => exact False.elim p
section
variable {X : Cx} {W : WX} {pos p2 p3 : Pos} {e st : Expr} {m n : EM}
theorem e_step (he : PE X e (tE (cm X) W m)) (hs : PE X st (tE (cm X) W n)) : PE X (.Subscript e (.Slice none none (some st) p3) pos) (tE (cm X) W (mBin gStep m n)) :=
  PE.imp (pe_step he hs) fun _ _ _ h => bin2 o_step h
end
def aSet (a b v : AV) (M : AH) : Option AH := match a with
  | .ref n => match M.objs[n]? with
    | some (.lst xs) => match b with
      | .int k => (ixN xs.length k).map fun j => ⟨M.objs.set n (.lst (xs.set j v)), M.fz⟩
      | _ => none
    | some (.dK kvs) => if n ∈ M.fz ∨ ¬ kvs.length < 16777216 then none else (keyK b).map fun k => ⟨M.objs.set n (.dK (setK kvs k v)), M.fz⟩
    | some (.dT kvs) => if n ∈ M.fz ∨ ¬ kvs.length < 16777216 then none else (keyT b).map fun k => ⟨M.objs.set n (.dT (setK kvs k v)), M.fz⟩
    | _ => none
  | _ => none
def gPut (mo mi : EM) : TMt := fun v G M => match mo G M with
  | .ok a M1 => match mi G M1 with
    | .ok b M2 => match aSet a b v M2 with
      | some M3 => .ok G M3
      | none => .stuck
    | _ => .stuck
  | _ => .stuck
def rPut : TSet := fun o i v H Q => rSetL o i v H Q ∨ rSetD o i v H Q
theorem x_put {X : Cx} (hu : X.A.units + 1 < cLine) : PSet X rPut := by
  intro pins s σ H o i v ov iv u Q I ro ri rv h
  rcases h with h | h
  · exact set_list pins s σ H o i v ov iv u Q I ro ri rv h
  · exact set_dict hu pins s σ H o i v ov iv u Q I ro ri rv h
theorem VRs.set {K : PySem.W.Frag} {i : Ix} {H : Hp} {v : V} {a : AV} (h : VR K i H v a) : ∀ {vs : List V} {as : List AV} (j : Nat), VRs K i H vs as → VRs K i H (vs.set j v) (as.set j a)
  | _, _, _, .nil => .nil
  | _, _, 0, .cons _ t => .cons h t
  | _, _, j + 1, .cons r t => .cons r (VRs.set h j t)
theorem aSet_at {C : Cm} {i : Ix} {M M' : AH} {H : Hp} {x y z : V} {a b c : AV} {Q : Hp → Prop} (s : Sim C.K C.tb i M H) (ra : VR C.K i H x a) (rb : VR C.K i H y b) (rc : VR C.K i H z c) (h : aSet a b c M = some M')
    (q : ∀ H', Ext i i H H' → Sim C.K C.tb i M' H' → Q H') : rPut x y z H Q := by
  cases ra with
  | @ref p n hn =>
    obtain ⟨d, hd, o⟩ := s.get hn
    simp only [aSet, hd] at h
    have e0 : ∀ {u}, H p = some u → (∀ o u', u ≠ .frz o u') → ∀ o', Ext i i H (upd H p o') := fun hu hz o' => Ext.mut (List.mem_of_getElem? hn) (fun o u' z => by rw [hu] at z; exact hz _ _ (Option.some.inj z)) o.notb
    have hl : sizeLine = 16777216 := sizeLine_eq
    cases o with
    | @lst us xs h1 h2 =>
      cases b with
      | int k =>
        cases rb
        cases ej : ixN xs.length k with
        | none => simp only [ej, Option.map_none] at h; cases h
        | some j =>
          simp only [ej, Option.map_some, Option.some.injEq] at h
          subst h
          refine .inl ⟨p, us, k, j, rfl, rfl, h1, by rw [h2.len]; exact ej, q _ (e0 h1 (fun _ _ z => by cases z) _) (s.set hn (.lst upd_same ((h2.set rc j).mono (e0 h1 (fun _ _ z => by cases z) _))) (fun m _ hm => hm) (Sim.same (s.nofz hn h1 fun _ _ z => by cases z)))⟩
      | _ => cases h
    | @dK us xs h1 h2 =>
      by_cases hg : n ∈ M.fz ∨ ¬ xs.length < 16777216
      · simp only [if_pos hg] at h; cases h
      · simp only [if_neg hg] at h
        rw [not_or, Decidable.not_not] at hg
        cases ek : keyK b with
        | none => simp only [ek, Option.map_none] at h; cases h
        | some k =>
          simp only [ek, Option.map_some, Option.some.injEq] at h
          subst h
          have hp : H p = some (.dK us) := by
            rcases h1 with h1 | ⟨h0, _⟩
            · exact h1
            · exact absurd h0 hg.1
          refine .inr ⟨p, _, rfl, .inl ⟨us, k, hp, keyK_at rb ek, by rw [h2.len, hl]; exact hg.2, rfl⟩, q _ (e0 hp (fun _ _ z => by cases z) _) (s.set hn (.dK (.inl upd_same) ((VRk.put rc h2).mono (e0 hp (fun _ _ z => by cases z) _))) (fun m _ hm => hm) (Sim.same hg.1))⟩
    | @dT us xs h1 h2 =>
      by_cases hg : n ∈ M.fz ∨ ¬ xs.length < 16777216
      · simp only [if_pos hg] at h; cases h
      · simp only [if_neg hg] at h
        rw [not_or, Decidable.not_not] at hg
        cases ek : keyT b with
        | none => simp only [ek, Option.map_none] at h; cases h
        | some k =>
          simp only [ek, Option.map_some, Option.some.injEq] at h
          subst h
          have hp : H p = some (.dT us) := by
            rcases h1 with h1 | ⟨h0, _⟩
            · exact h1
            · exact absurd h0 hg.1
          obtain ⟨pb, eb, hb⟩ := keyT_at rb ek
          refine .inr ⟨p, _, rfl, .inr ⟨us, k, pb, hp, eb, hb, by rw [h2.len, hl]; exact hg.2, rfl⟩, q _ (e0 hp (fun _ _ z => by cases z) _) (s.set hn (.dT (.inl upd_same) ((VRt.put rc h2).mono (e0 hp (fun _ _ z => by cases z) _))) (fun m _ hm => hm) (Sim.same hg.1))⟩
  | _ => cases h
section
variable {X : Cx} {W : WX} {pos : Pos} {o i : Expr} {mo mi : EM}
theorem g_put (hu : X.A.units + 1 < cLine) (ho : PE X o (tE (cm X) W0 mo)) (hi : PE X i (tE (cm X) W0 mi))
    (ha : ∀ v, assign (.Subscript o i pos) X.env v = (do
      let ov ← holding [v] (eval o X.env)
      let iv ← holding [v, ov] (eval i X.env)
      standAt pos
      holding [v, ov, iv] (setItem ov iv v)
      release [v, ov, iv] []) := by intro _; rfl) : PG X (.Subscript o i pos) (tG (cm X) (gPut mo mi)) :=
  PG.imp (pg_sub ho hi (x_put hu) ha) fun v σ H Q ⟨k, G, M, c, s, r, rv, p⟩ => by
    unfold gPut at p
    refine ⟨k, G, M, s, r, ?_⟩
    cases e1 : mo G M with
    | stuck => rw [e1] at p; exact p
    | exc cl fs M1 => rw [e1] at p; exact False.elim p
    | ok a M1 =>
      simp only [e1] at p
      intro x j H1 ee1 s1 ra
      refine ⟨j, G, M1, s1, r.mono ee1, ?_⟩
      cases e2 : mi G M1 with
      | stuck => simp only [e2] at p; exact p
      | exc cl fs M2 => simp only [e2] at p; exact False.elim p
      | ok b M2 =>
        simp only [e2] at p
        intro y j2 H2 ee2 s2 rb
        cases e3 : aSet a b c M2 with
        | none => simp only [e3] at p; exact False.elim p
        | some M3 =>
          simp only [e3] at p
          exact aSet_at s2 (ra.mono ee2) rb ((rv.mono ee1).mono ee2) e3 fun H3 ee3 s3 => p σ j2 H3 ((ee1.trans ee2).trans ee3) s3 (((r.mono ee1).mono ee2).mono ee3)
end
abbrev KM := Env → AH → Res (List (Key × AV))
def kNil : KM := fun _ M => .ok [] M
def kCons (k : Key) (m : EM) (n : KM) : KM := fun G M => (m G M).bind fun a M1 => (n G M1).bind fun r M2 => .ok ((k, a) :: r) M2
end Mx

namespace Mx
open PySem L2 PySem.Spec
abbrev RK (C : Cm) : Ix → Hp → List (Key × V) → List (Key × AV) → Prop := fun i H v a => VRk C.K i H v a
structure PD (X : Cx) (W : WX) (pos : Pos) (keys : List (Option Expr)) (values : List Expr) (n : KM) : Prop where
  at' : ∃ trs, PPs X pos keys values trs ∧ ∀ σ H Q, tM (cm X) W (RK (cm X)) n σ H Q → tPairs trs σ H fun ps H' => ∃ kvs : List (Key × V), ps = kvs.map (fun kv => (kV kv.1, kv.2)) ∧ Q kvs H'
section
variable {X : Cx} {W : WX} {pos : Pos} {ks : List (Option Expr)} {vs : List Expr} {n : KM} {m : EM} {v : Expr}
theorem d_nil : PD X W pos [] [] kNil := ⟨[], pps_nil, fun σ H Q ⟨i, G, M, s, r, p⟩ => ⟨[], rfl, p.now s .nil⟩⟩
theorem d_cons {x : Str} {j : Nat} {p : Pos} (hv : PE X v (tE (cm X) W m)) (hr : PD X W pos ks vs n) : PD X W pos (some (.Constant (.str x) j p) :: ks) (v :: vs) (kCons (.inr x) m n) := by
  obtain ⟨trs, h1, h2⟩ := hr
  refine ⟨(tC (.str x), tE (cm X) W m) :: trs, pps_cons pe_str hv h1, fun σ H Q h => ?_⟩
  have h3 := tM.bind (R := RV (cm X)) (m := m) (f := fun G a M1 => (n G M1).bind fun r M2 => .ok (((Sum.inr x : Key), a) :: r) M2) h
  refine tM.imp h3 fun y H1 ⟨k, G, a, M, s, r, rr, p⟩ => ?_
  have h4 : tM (cm X) W (RK (cm X)) n σ H1 (fun kvs H2 => Q ((Sum.inr x, y) :: kvs) H2) := ⟨k, G, M, s, r, (post.bind (R := RK (cm X)) p).imp (fun kvs H2 ⟨l, as, M2, e2, s2, rs, p2⟩ => p2.now s2 (.cons (rr.mono e2) rs)) fun _ _ _ z => z⟩
  have h5 := h2 σ H1 _ h4
  have go : ∀ (trs : List (TE × TE)) (h1 : True) (H1 : Hp), tPairs trs σ H1 (fun ps H' => ∃ kvs : List (Key × V), ps = kvs.map (fun kv => (kV kv.1, kv.2)) ∧ Q ((Sum.inr x, y) :: kvs) H') → True := fun _ _ _ _ => trivial
  exact h5 |> fun h5 => by
    refine cast ?_ h5
    congr 1
    funext ps H3
    apply propext
    constructor
    · rintro ⟨kvs, rfl, q⟩
      exact ⟨(Sum.inr x, y) :: kvs, rfl, q⟩
    · rintro ⟨kvs, e, q⟩
      cases kvs with
      | nil => cases e
      | cons kv kvs =>
        rw [List.map_cons] at e
        injection e with e1 e2
        obtain ⟨k', v'⟩ := kv
        injection e1 with e3 e4
        have e5 : kV (Sum.inr x) = kV k' := e3
        cases kV_inj e5
        subst e4
        exact ⟨kvs, e2, q⟩
end
def mergeA (kvs : List (Key × AV)) : List (Key × AV) := kvs.foldl (fun acc kv => setK acc kv.1 kv.2) []
theorem VRk.merge {K : PySem.W.Frag} {i : Ix} {H : Hp} : ∀ {us : List (Key × V)} {as : List (Key × AV)} {u0 : List (Key × V)} {a0 : List (Key × AV)}, VRk K i H us as → VRk K i H u0 a0 → VRk K i H (us.foldl (fun acc kv => putK acc kv.1 kv.2) u0) (as.foldl (fun acc kv => setK acc kv.1 kv.2) a0)
  | _, _, _, _, .nil, h => h
  | _, _, _, _, .cons r t, h => by
    rw [List.foldl_cons, List.foldl_cons]
    exact VRk.merge t (h.put r)
section
variable {C : Cm} {i j : Ix} {M : AH} {H H2 : Hp} {p : Addr} {o o' : HO}
theorem unhide {c : AV} (e : Ext (i.hide p) j (upd H p o) H2) (s : Sim C.K C.tb j M H2) (hn : H p = none) (hs : ∀ a, a ∈ i.prv → H a ≠ none)
    (ho : ∀ k H3, Carry j k H2 H3 → H3 p = some o' → OR C.K k H3 p False c) :
    Ext i ((j.show p).push p) H (upd H2 p o') ∧ Sim C.K C.tb ((j.show p).push p) ⟨M.objs ++ [c], M.fz⟩ (upd H2 p o') ∧ VR C.K ((j.show p).push p) (upd H2 p o') (.ref p) (.ref M.objs.length) := by
  have hp : p ∈ j.prv := e.prv p List.mem_cons_self
  have hD := (s.sep p hp).1
  have hprv : ∀ a, a ∈ (j.show p).prv → a ≠ p := fun a ha => of_decide_eq_true (List.mem_filter.mp ha).2
  have ca : Carry j ((j.show p).push p) H2 (upd H2 p o') := ⟨fun n a e => by
    show (j.num ++ [p])[n]? = some a
    rw [List.getElem?_append_left (List.getElem?_eq_some_iff.mp e).1]
    exact e, fun a u hn' e => by
      have ne : a ≠ p := fun z => hn' (z ▸ .inr hp)
      refine ⟨by rw [upd_ne ne]; exact e, fun z => ?_⟩
      rcases z with z | z
      · rcases List.mem_append.mp z with z | z
        · exact hn' (.inl z)
        · exact ne (List.mem_singleton.mp z)
      · exact hn' (.inr (List.mem_filter.mp z).1)⟩
  have hor := ho _ _ ca (upd_same (H := H2))
  refine ⟨⟨?_, fun a ha => ?_, fun a ha hi => ?_, fun a ha hi => ?_, fun a u hu hi ha => ?_, fun a o u ha => (by
    have ne : a ≠ p := fun z => by rw [z, hn] at ha; cases ha
    rw [upd_ne ne]
    exact e.fro a o u (by rw [upd_ne ne]; exact ha)), e.tbe, (fun t => tabs_upd (s.npv p hp) (e.tbk (tabs_upd (notb_none hn) t))), (fun a ps hi ha => by
    have ne : a ≠ p := fun z => by rw [z, hn] at ha; cases ha
    exact tbg_upd (e.tbg a ps hi (by rw [upd_ne ne]; exact ha)))⟩, ⟨?_, ?_, fun a ha => ⟨fun z => ?_, ?_⟩, fun n a d h1 h2 => ?_, fun a ha us => (by rw [upd_ne (hprv a ha)]; exact s.nt a (List.mem_filter.mp ha).1 us), fun n hn => (by
    obtain ⟨a, h1, o, u, h2⟩ := s.fzl n hn
    have ne : a ≠ p := fun z => hD (z ▸ List.mem_of_getElem? h1)
    refine ⟨a, ?_, o, u, by rw [upd_ne ne]; exact h2⟩
    show (j.num ++ [p])[n]? = some a
    rw [List.getElem?_append_left (List.getElem?_eq_some_iff.mp h1).1]
    exact h1), tabs_upd (s.npv p hp) s.tbs, (fun a ha u hu => by
      rw [upd_ne (hprv a ha)] at hu
      exact s.npv a (List.mem_filter.mp ha).1 u hu), s.ht⟩, .ref ?_⟩
  · obtain ⟨l, q⟩ := e.app
    have q : j.num = i.num ++ l := q
    exact ⟨l ++ [p], by show j.num ++ [p] = _; rw [q, List.append_assoc]⟩
  · exact List.mem_filter.mpr ⟨e.prv a (List.mem_cons_of_mem _ ha), decide_eq_true fun z => hs a ha (z ▸ hn)⟩
  · have ne := hprv a ha
    have q := e.hid a (List.mem_filter.mp ha).1 (Ix.hide_not hi ne)
    rw [upd_ne ne] at q
    exact q
  · rcases List.mem_append.mp ha with z | z
    · have q := e.new a z hi
      by_cases ne : a = p
      · rw [ne]; exact hn
      · rw [upd_ne ne] at q
        exact q
    · rw [List.mem_singleton.mp z]
      exact hn
  · have ne : a ≠ p := fun z => by rw [z, hn] at ha; cases ha
    rw [upd_ne ne]
    exact e.keep a u hu hi (by rw [upd_ne ne]; exact ha)
  · show (j.num ++ [p]).length = (M.objs ++ [_]).length
    simp [s.len]
  · show (j.num ++ [p]).Nodup
    rw [List.nodup_append]
    exact ⟨s.nd, by simp, fun a ha b hb z => hD (by rw [List.mem_singleton.mp hb] at z; exact z ▸ ha)⟩
  · rcases List.mem_append.mp z with z | z
    · exact (s.sep a (List.mem_filter.mp ha).1).1 z
    · exact hprv a ha (List.mem_singleton.mp z)
  · rw [upd_ne (hprv a ha)]
    exact (s.sep a (List.mem_filter.mp ha).1).2
  · have h1 : (j.num ++ [p])[n]? = some a := h1
    have h2 : (M.objs ++ [c])[n]? = some d := h2
    by_cases hl : n < j.num.length
    · rw [List.getElem?_append_left hl] at h1
      rw [List.getElem?_append_left (by rw [← s.len]; exact hl)] at h2
      exact (s.obj n a d h1 h2).carry ca (upd_ne fun z => hD (z ▸ List.mem_of_getElem? h1))
    · have hl2 := (List.getElem?_eq_some_iff.mp h1).1
      simp only [List.length_append, List.length_cons, List.length_nil] at hl2
      have e3 : n = j.num.length := by omega
      subst e3
      have q1 : a = p := by
        simp at h1
        exact h1.symm
      have q2 : d = c := by
        rw [s.len] at h2
        simp at h2
        exact h2.symm
      rw [q1, q2]
      cases hor with
      | lst a1 a2 => exact .lst a1 a2
      | dK a1 a2 => exact .dK (a1.imp id fun z => z.1.elim) a2
      | dT a1 a2 => exact .dT (a1.imp id fun z => z.1.elim) a2
  · show (j.num ++ [p])[M.objs.length]? = some p
    rw [← s.len]
    simp
end
def mDisp (n : KM) : EM := fun G M => (n G M).bind fun kvs M1 => if kvs.length ≤ 15 then .ok (.ref M1.objs.length) ⟨M1.objs ++ [.dK (mergeA kvs)], M1.fz⟩ else .stuck
def mDictK : EM := fun _ M => .ok (.ref M.objs.length) ⟨M.objs ++ [.dK []], M.fz⟩
def mDictT : EM := fun _ M => .ok (.ref M.objs.length) ⟨M.objs ++ [.dT []], M.fz⟩
section
variable {X : Cx} {W : WX} {pos : Pos} {ks : List (Option Expr)} {vs : List Expr} {n : KM}
theorem e_disp (h : PD X W pos ks vs n) (h0 : ks ≠ [] := by intro z; cases z) (hall : ks.all (·.isSome) = true := by rfl) (hl : ks.length = vs.length := by rfl) (h15 : ks.length ≤ 15 := by decide) : PE X (.Dict ks vs pos) (tE (cm X) W (mDisp n)) := by
  obtain ⟨trs, h1, h2⟩ := h
  refine PE.imp (pe_disp h1 hall hl h0 h15) fun σ H Q ⟨i, G, M, s, r, q⟩ p hp => ?_
  have hh : tM (cm X) W (RK (cm X)) n σ (upd H p (.dK [])) (fun kvs H' => H' p = some (.dK []) ∧ kvs.length ≤ 15 ∧ Q (.ref p) (upd H' p (.dK (mergeK [] kvs)))) := by
    refine ⟨i.hide p, G, M, s.hide hp, r.carry (Carry.hide hp), ?_⟩
    unfold mDisp at q
    cases e : n G M with
    | stuck =>
      rw [e] at q
      exact q
    | exc c fs M1 =>
      rw [e] at q
      intro cls d j H' ee s' x
      have q : post (cm X) (RV (cm X)) i H (.exc c fs M1) Q (fun c d H' => W c d σ H') := q
      obtain ⟨A, q1, q2, dx, us, q3, q4, q5, q6⟩ := x
      refine q cls d j H' ⟨?_, fun a ha => ee.prv a (List.mem_cons_of_mem _ ha), fun a ha hi => ?_, fun a ha hi => ?_, fun a u hu hi ha => ?_, fun a o u ha => (by
        have ne : a ≠ p := fun z => by rw [z, hp] at ha; cases ha
        exact ee.fro a o u (by rw [upd_ne ne]; exact ha)), ee.tbe, (fun t => ee.tbk (tabs_upd (notb_none hp) t)), (fun a ps hi ha => by
        have ne : a ≠ p := fun z => by rw [z, hp] at ha; cases ha
        exact ee.tbg a ps hi (by rw [upd_ne ne]; exact ha))⟩ s' ⟨A, q1, q2, dx, us, q3, q4, q5, q6⟩
      · exact ee.app
      · by_cases ne : a = p
        · rw [ne]; exact hp
        · have z := ee.hid a ha (Ix.hide_not hi ne)
          rw [upd_ne ne] at z
          exact z
      · by_cases ne : a = p
        · rw [ne]; exact hp
        · have z := ee.new a ha hi
          rw [upd_ne ne] at z
          exact z
      · have ne : a ≠ p := fun z => by rw [z, hp] at ha; cases ha
        exact ee.keep a u hu hi (by rw [upd_ne ne]; exact ha)
    | ok kvs M1 =>
      rw [e] at q
      obtain ⟨hk, q⟩ := post.need q
      intro us j H' ee s' rk
      have hpn : p ∈ j.prv := ee.prv p List.mem_cons_self
      have hpn' : p ∉ (i.hide p).num := fun z => s.notin hp (.inl z)
      have h3 : H' p = some (.dK []) := ee.keep p _ (fun _ z => by cases z) hpn' upd_same
      obtain ⟨a1, a2, a3⟩ := unhide (C := cm X) (c := .dK (mergeA kvs)) (o' := .dK (mergeK [] us)) ee s' hp (fun a ha => (s.sep a ha).2) fun k H3 ca hh => .dK (.inl hh) (VRk.merge (rk.carry ca) .nil)
      exact ⟨h3, by rw [rk.len]; exact hk, q _ _ _ a1 a2 a3⟩
  have h5 := h2 σ _ _ hh
  refine cast ?_ h5
  congr 1
  funext ps H3
  apply propext
  constructor
  · rintro ⟨kvs, e1, e2, e3, e4⟩
    exact ⟨e2, kvs, e1, e3, e4⟩
  · rintro ⟨e2, kvs, e1, e3, e4⟩
    exact ⟨kvs, e1, e2, e3, e4⟩
theorem e_dictK : PE X (.Dict [] [] pos) (tE (cm X) W mDictK) := PE.imp pe_dnewK fun σ H Q ⟨i, G, M, s, r, p⟩ q hq =>
  p _ (i.push q) _ (Ext.push hq) (s.push hq (.dK (.inl upd_same) .nil)) (.ref (by rw [← s.len]; simp [Ix.push]))
theorem e_dictT : PE X (.Dict [] [] pos) (tE (cm X) W mDictT) := PE.imp pe_dnewT fun σ H Q ⟨i, G, M, s, r, p⟩ q hq =>
  p _ (i.push q) _ (Ext.push hq) (s.push hq (.dT (.inl upd_same) .nil)) (.ref (by rw [← s.len]; simp [Ix.push]))
end
theorem call_lenK {X : Cx} : CallR X (.builtin "len") (fun xs H Q => ∃ a kvs, xs = [V.ref a] ∧ Rd H a (.dK kvs) ∧ Q (.int kvs.length) H) := by
  intro pins s σ H xs us Q I r h
  obtain ⟨a, kvs, rfl, e, q⟩ := h
  obtain rfl := Vals.ref1 r
  exact d_len I e fun t s' I' => ⟨.int kvs.length, H, I', ⟨_, rfl⟩, q⟩
def isFz (M : AH) : AV → Bool
  | .ref n => decide (n ∈ M.fz)
  | _ => false
def gLenO (M : AH) (a : AV) : Res AV := match dctK M a with
  | some kvs => .ok (.int kvs.length) M
  | none => match dctT M a with
    | some kvs => if isFz M a = true then .stuck else .ok (.int kvs.length) M
    | none => match itemsOf M a with
      | some xs => .ok (.int xs.length) M
      | none => .stuck
def gLen1 (M : AH) : AV → Res AV
  | .str z => sized z.length (.ok (.int z.length) M)
  | a => gLenO M a
def gLen : List AV → AH → Res AV
  | [a], M => gLen1 M a
  | _, _ => .stuck
def rLenA (X : Cx) : List V → Hp → VK → Prop := fun xs H Q => (∃ z, xs = [V.str z] ∧ z.length ≤ sizeLine ∧ Q (.int z.length) H) ∨ (∃ p ys, xs = [V.ref p] ∧ (SqL X.K H p ys ∨ SqT X.K H p ys) ∧ Q (.int ys.length) H) ∨
  (∃ a kvs, xs = [V.ref a] ∧ Rd H a (.dK kvs) ∧ Q (.int kvs.length) H) ∨ rLenT xs H Q
theorem x_len {X : Cx} : CallR X (.builtin "len") (rLenA X) := CallR.or call_len_str (CallR.or call_len_seq (CallR.or call_lenK call_len_dT))
theorem VRs.one {K : PySem.W.Frag} {i : Ix} {H : Hp} {xs : List V} {a : AV} (r : VRs K i H xs [a]) : ∃ x, xs = [x] ∧ VR K i H x a := by
  cases r with
  | cons r t => cases t; exact ⟨_, rfl, r⟩
theorem o_len {X : Cx} : OpC (cm X) (rLenA X) gLen := fun i M H xs as Q W s r p => by
  match as, r, p with
  | [], _, p => exact False.elim p
  | _ :: _ :: _, _, p => exact False.elim p
  | [a], r, p =>
    obtain ⟨x, rfl, rx⟩ := r.one
    by_cases hs : ∃ z, a = .str z
    · obtain ⟨z, rfl⟩ := hs
      cases rx
      obtain ⟨hz, p⟩ := p.sized
      exact .inl ⟨z, rfl, hz, p.now s (.int _)⟩
    · have p : post (cm X) (RV (cm X)) i H (gLenO M a) Q W := by
        cases a <;> first | exact p | exact absurd ⟨_, rfl⟩ hs
      unfold gLenO at p
      cases e1 : dctK M a with
      | some kvs =>
        rw [e1] at p
        obtain ⟨pa, n, us, rfl, _, hn, _, hd, _, hr⟩ := dctK_at s rx e1
        refine .inr (.inr (.inl ⟨pa, us, rfl, hd, ?_⟩))
        rw [hr.len]
        exact p.now s (.int _)
      | none =>
        rw [e1] at p
        cases e2 : dctT M a with
        | none =>
          simp only [e2] at p
          cases e3 : itemsOf M a with
          | none => rw [e3] at p; exact False.elim p
          | some xs =>
            rw [e3] at p
            obtain ⟨q, us, rfl, h1, h2⟩ := itemsOf_at s rx e3
            refine .inr (.inl ⟨q, us, rfl, h1, ?_⟩)
            rw [h2.len]
            exact p.now s (.int _)
        | some kvs =>
          simp only [e2] at p
          obtain ⟨pa, n', us, rfl, en, hn, _, _, hd, hr⟩ := dctT_at s rx e2
          subst en
          by_cases hf : n' ∈ M.fz
          · have e4 : isFz M (.ref n') = true := decide_eq_true hf
            rw [if_pos e4] at p; exact False.elim p
          · have e4 : ¬ isFz M (.ref n') = true := fun z => hf (of_decide_eq_true z)
            rw [if_neg e4] at p
            refine .inr (.inr (.inr ⟨pa, us, rfl, hd hf, ?_⟩))
            rw [hr.len]
            exact p.now s (.int _)
def tyN (M : AH) : AV → Option String
  | .non => some "NoneType"
  | .bl _ => some "bool"
  | .int _ => some "int"
  | .str _ => some "str"
  | .tup _ => some "tuple"
  | .lst _ => some "list"
  | .fro _ => some "list"
  | .tuc _ => some "tuple"
  | .dK _ => none
  | .dT _ => none
  | .ref n => match M.objs[n]? with
    | some (.lst _) => some "list"
    | some (.dK _) => some "dict"
    | some (.dT _) => if n ∈ M.fz then none else some "dict"
    | _ => none
def isiB (a b : String) : Bool := a == b || (a == "bool" && b == "int")
def tyNames : List String := ["NoneType", "bool", "int", "str", "tuple", "list", "dict"]
theorem isi_all : (tyNames.all fun a => ["bool", "int", "str", "tuple", "list", "dict"].all fun b => decide (kitB a b = some (isiB a b))) = true := by decide +kernel
theorem isi_one {a b : String} (ha : a ∈ tyNames) (hb : b ∈ ["bool", "int", "str", "tuple", "list", "dict"]) : kitB a b = some (isiB a b) := of_decide_eq_true (List.all_eq_true.mp (List.all_eq_true.mp isi_all a ha) b hb)
theorem tyN_mem {M : AH} {a : AV} {t : String} (h : tyN M a = some t) : t ∈ tyNames := by
  cases a with
  | ref n =>
    simp only [tyN] at h
    split at h
    · cases h; decide
    · cases h; decide
    · split at h
      · cases h
      · cases h; decide
    · cases h
  | dK _ => cases h
  | dT _ => cases h
  | _ => cases h; decide
theorem tyN_at {K : PySem.W.Frag} {T : List (Addr × Str)} {i : Ix} {M : AH} {H : Hp} {v : V} {a : AV} {t : String} (s : Sim K T i M H) (r : VR K i H v a) (h : tyN M a = some t) : TyX K H v (.type t) := by
  cases r with
  | non => cases h; exact .base .non
  | bl b => cases h; exact .base (.bl b)
  | int b => cases h; exact .base (.int b)
  | str b => cases h; exact .base (.str b)
  | tup h1 _ _ => cases h; exact .base (.tup h1)
  | lst h1 _ _ => cases h; exact .base (.lst h1)
  | fro h1 _ =>
    cases h
    rcases h1 with ⟨h1 | ⟨o, h1⟩, _⟩ | ⟨o, its, n, h1, h2, _⟩
    · exact .base (.lst h1)
    · exact .base (.frz h1)
    · exact .kList h1 h2
  | tuc h1 _ =>
    cases h
    rcases h1 with ⟨⟨o, h1, _⟩, _⟩ | ⟨o, its, n, h1, h2, _⟩
    · exact .fTuple h1
    · exact .kTuple h1 h2
  | @ref p n hn =>
    obtain ⟨c, hc, o⟩ := s.get hn
    simp only [tyN, hc] at h
    cases o with
    | lst h1 _ => cases h; exact .base (.lst h1)
    | dK h1 _ =>
      cases h
      rcases h1 with h1 | ⟨_, o, h1⟩
      · exact .base (.dK h1)
      · exact .fDict h1
    | dT h1 _ =>
      have h : (if n ∈ M.fz then none else some "dict") = some t := h
      split at h
      · cases h
      · rename_i hf
        cases h
        rcases h1 with h1 | ⟨h0, _⟩
        · exact .base (.dT h1)
        · exact absurd h0 hf
def gIsi (T : String) : AV → AH → Res AV := fun a M => match tyN M a with
  | some t => .ok (.bl (isiB t T)) M
  | none => .stuck
theorem e_isi {X : Cx} {W : WX} {pos p p2 : Pos} {e : Expr} {m : EM} {x : Str} {T : String} (he : PE X e (tE (cm X) W m)) (hT : T ∈ ["bool", "int", "str", "tuple", "list", "dict"]) (hg : Gl X "isinstance") (hm : X.mg "isinstance" = none) (hgT : Gl X x) (hmT : X.mg x = none) (hvT : bootBuiltins x = some (.type T))
    (hn : x ≠ "__name__" := by decide) (hd : (x == ("__debug__" : Str)) = false := by decide) (h1 : starEach [e, .Name x p2] X.env = (false, eval e X.env) :: starEach [.Name x p2] X.env := by rfl) (h2 : starEach [.Name x p2] X.env = (false, eval (.Name x p2) X.env) :: starEach [] X.env := by rfl)
    (hpl : (backTo pos (starEach [.Name x p2] X.env)).any (·.1) = false := by rfl) (hv : bootBuiltins "isinstance" = some (.builtin "isinstance") := by kernel_rfl) : PE X (.Call (.Name "isinstance" p) [e, .Name x p2] [] pos) (tE (cm X) W (mUn (gIsi T) m)) :=
  PE.imp (pe_callB call_isi hg hm hv (pa_cons he (pa_cons (pe_bltn hgT hmT hvT (v := .ty T) rfl hn hd) pa_nil h2) h1) (by decide) (by decide) h1 hpl) fun σ H Q h => by
    have h1 := tM.bind (R := RV (cm X)) (m := m) (f := fun G a M1 => gIsi T a M1) h
    refine tM.imp h1 fun v H1 ⟨j, G, a, M, s, r, rr, q⟩ => ?_
    unfold gIsi at q
    cases e1 : tyN M a with
    | none => rw [e1] at q; exact False.elim q
    | some t =>
      rw [e1] at q
      exact ⟨v, .ty T, .type t, .type T, isiB t T, rfl, .ty T, tyN_at s rr e1, kit_ty (isi_one (tyN_mem e1) hT), q.now s (.bl _)⟩
mutual
theorem pdl_depth : ∀ (d : PyData) (n : Nat), pdl n d = true → d.depth ≤ n ∧ d.hasDict = false
  | .none, n, _ => ⟨by simp [PyData.depth], by simp [PyData.hasDict]⟩
  | .bool _, n, _ => ⟨by simp [PyData.depth], by simp [PyData.hasDict]⟩
  | .int _, n, _ => ⟨by simp [PyData.depth], by simp [PyData.hasDict]⟩
  | .str _, n, _ => ⟨by simp [PyData.depth], by simp [PyData.hasDict]⟩
  | .list xs, 0, h => by cases h
  | .tuple xs, 0, h => by cases h
  | .list xs, n + 1, h => by
    obtain ⟨h1, h2⟩ := pdls_depth xs n h
    exact ⟨by simp only [PyData.depth]; omega, by simp only [PyData.hasDict]; exact h2⟩
  | .tuple xs, n + 1, h => by
    obtain ⟨h1, h2⟩ := pdls_depth xs n h
    exact ⟨by simp only [PyData.depth]; omega, by simp only [PyData.hasDict]; exact h2⟩
  | .dict _, n, h => by cases n <;> cases h
theorem pdls_depth : ∀ (ds : List PyData) (n : Nat), ds.all (pdl n) = true → PyData.depthAll ds ≤ n ∧ PyData.hasDictAll ds = false
  | [], n, _ => ⟨by simp [PyData.depthAll], by simp [PyData.hasDictAll]⟩
  | d :: ds, n, h => by
    rw [List.all_cons, Bool.and_eq_true] at h
    obtain ⟨h1, h2⟩ := pdl_depth d n h.1
    obtain ⟨h3, h4⟩ := pdls_depth ds n h.2
    exact ⟨by simp only [PyData.depthAll]; omega, by simp only [PyData.hasDictAll, h2, h4]; rfl⟩
end
def rRepr (K : PySem.W.Frag) : List V → Hp → VK → Prop := fun xs H Q => ∃ x d, xs = [x] ∧ Dp K H x d ∧ pdl 60 d = true ∧ d.showable = true ∧ d.shown.length ≤ sizeLine ∧ Q (.str d.shown) H
theorem call_reprD {X : Cx} (hu : X.A.units + 64 < cLine) (hg : X.A.guards = some []) : CallR X (.builtin "repr") (rRepr X.K) := by
  intro pins s σ H xs us Q I r h
  obtain ⟨x, d, rfl, hd, pd, hs, hz, q⟩ := h
  obtain ⟨u, rfl, rx⟩ := vals1 r
  cases hd with
  | non => cases rx; exact PySem.P.repr_of_none ⟨.str _, H, I.tok _, ⟨_, rfl⟩, q⟩
  | bl b => cases rx; exact PySem.P.repr_of_bool ⟨.str _, H, I.tok _, ⟨_, rfl⟩, q⟩
  | int k =>
    obtain ⟨t, rfl⟩ := rx
    refine PySem.P.repr_of_int (by simpa [PyData.showable] using hs) ⟨.str _, H, I.tok _, ⟨_, rfl⟩, q⟩
  | str z =>
    obtain ⟨t, rfl⟩ := rx
    exact PySem.P.repr_of_str ⟨.str _, H, I.tok _, ⟨_, rfl⟩, q⟩ hz
  | @lst a ys ds h1 h2 =>
    cases rx
    obtain ⟨as, rd⟩ := Dp.reads I _ _ _ (.lst h1 h2) rfl
    obtain ⟨e1, e2⟩ := pdl_depth _ _ pd
    exact repr_of_reads' rd hs (fun z => by rw [e2] at z; cases z) hg (by omega) (fun b o e => e) (fun h' u tk hk => ⟨.str _, H, I.kept hk, ⟨_, rfl⟩, q⟩) hz
  | @tup a ys ds h1 h2 =>
    cases rx
    obtain ⟨as, rd⟩ := Dp.reads I _ _ _ (.tup h1 h2) rfl
    obtain ⟨e1, e2⟩ := pdl_depth _ _ pd
    exact repr_of_reads' rd hs (fun z => by rw [e2] at z; cases z) hg (by omega) (fun b o e => e) (fun h' u tk hk => ⟨.str _, H, I.kept hk, ⟨_, rfl⟩, q⟩) hz
def shw (a : AV) : Str := (toD a).shown
def gRepr : List AV → AH → Res AV
  | [a], M => if plain 60 (top M a) = true ∧ (toD (top M a)).showable = true ∧ (shw (top M a)).length ≤ 16777216 then .ok (.str (shw (top M a))) M else .stuck
  | _, _ => .stuck
theorem o_repr {C : Cm} : OpC C (rRepr C.K) gRepr := fun i M H xs as Q W s r p => by
  match as, r, p with
  | [], _, p => exact False.elim p
  | _ :: _ :: _, _, p => exact False.elim p
  | [a], r, p =>
    obtain ⟨x, rfl, rx⟩ := r.one
    obtain ⟨⟨h1, h2, h3⟩, p⟩ := post.need p
    exact ⟨x, _, rfl, dp_top s rx h1, pdl_of _ _ h1, h2, by rw [sizeLine_eq]; exact h3, p.now s (.str _)⟩
end Mx

namespace Mx
open PySem L2 PySem.Spec
def OpM (C : Cm) (r : V → List V → Hp → VK → Prop) (g : AV → List AV → AH → Res AV) : Prop := ∀ i M H x xs a as Q W, Sim C.K C.tb i M H → VR C.K i H x a → VRs C.K i H xs as → post C (RV C) i H (g a as M) Q W → r x xs H Q
def mMeth (ty : AH → AV → Bool) (g : AV → List AV → AH → Res AV) (m : EM) (n : AM) : EM := fun G M => (m G M).bind fun a M1 => if ty M1 a = true then (n G M1).bind fun as M2 => g a as M2 else .stuck
def mMeth0 (ty : AH → AV → Bool) (g : AV → List AV → AH → Res AV) (m : EM) : EM := fun G M => (m G M).bind fun a M1 => if ty M1 a = true then g a [] M1 else .stuck
def TyOk (C : Cm) (T : String) (ty : AH → AV → Bool) : Prop := ∀ i M H v a, Sim C.K C.tb i M H → VR C.K i H v a → ty M a = true → tyV C.K T v H
section
variable {X : Cx} {W : WX} {o e : Expr} {es : List Expr} {m : EM} {n : AM} {name : Str} {apos cpos : Pos} {T id : String} {r : V → List V → Hp → VK → Prop} {ty : AH → AV → Bool} {g : AV → List AV → AH → Res AV}
theorem e_meth (pa : PlainAttrs T) (slot : Slot T name id) (hty : typeOf (.builtin id) = pure (.type "method_descriptor")) (hm : MtR X id r) (ht : TyOk (cm X) T ty) (hg : OpM (cm X) r g) (ho : PE X o (tE (cm X) W m)) (ha : PA X (e :: es) (tA (cm X) W n))
    (hbase : attributeBase o name X.env (eval o X.env) = eval o X.env := by rfl)
    (hfew : ((backTo cpos (starEach (e :: es) X.env)).all (fun x => !x.1) && (backToKw cpos (keywordEach [] X.env)).all (fun x => x.1.isSome)
      && decide ((e :: es).length + ([] : List Keyword).length + (if ([] : List Keyword).isEmpty then 0 else 1) < 30)) = true := by rfl)
    (hline : (apos.endLine == cpos.line) = true := by rfl) (hs : starEach (e :: es) X.env = (false, eval e X.env) :: starEach es X.env := by rfl) (hplain : (backTo cpos (starEach es X.env)).any (·.1) = false := by rfl) :
    PE X (.Call (.Attribute o name apos) (e :: es) [] cpos) (tE (cm X) W (mMeth ty g m n)) :=
  PE.imp (pe_bm pa slot hty hm ho ha hbase hfew hline hs hplain) fun σ H Q h => by
    have h1 := tM.bind (R := RV (cm X)) (m := m) (f := fun G a M1 => if ty M1 a = true then (n G M1).bind fun as M2 => g a as M2 else .stuck) h
    refine tM.imp h1 fun x H1 ⟨j, G, a, M, s, er, rr, p⟩ => ?_
    obtain ⟨hc, p⟩ := post.need p
    refine ⟨ht j M H1 x a s rr hc, j, G, M, s, er, (post.bind (R := RVs (cm X)) p).imp (fun xs H2 ⟨k, as, M2, e2, s2, rs, p2⟩ => ?_) fun _ _ _ z => z⟩
    exact hg k M2 H2 x xs a as Q _ s2 (rr.mono e2) rs p2
end
def tyL (M : AH) (a : AV) : Bool := (lstR M a).isSome
def tyS (M : AH) : AV → Bool
  | .str _ => true
  | _ => false
theorem ty_l {C : Cm} : TyOk C "list" tyL := fun i M H v a s r h => by
  unfold tyL at h
  cases e : lstR M a with
  | none => rw [e] at h; cases h
  | some xs =>
    obtain ⟨p, us, rfl, h1, h2⟩ := lstR_at s r e
    exact .inl ⟨rfl, us, h1⟩
theorem ty_s {C : Cm} : TyOk C "str" tyS := fun i M H v a s r h => by
  cases r with
  | str z => exact rfl
  | _ => cases h
def setL (M : AH) (n : Nat) (xs : List AV) : AH := ⟨M.objs.set n (.lst xs), M.fz⟩
theorem setL_at {C : Cm} {i : Ix} {M : AH} {H : Hp} {n : Nat} {p : Addr} {us : List V} {xs : List AV} (s : Sim C.K C.tb i M H) (hn : i.num[n]? = some p) (r : VRs C.K i H us xs) {us0 : List V} (hp : H p = some (.lst us0)) : Ext i i H (upd H p (.lst us)) ∧ Sim C.K C.tb i (setL M n xs) (upd H p (.lst us)) := by
  have e : Ext i i H (upd H p (.lst us)) := Ext.mut (List.mem_of_getElem? hn) (fun o u z => by rw [hp] at z; cases z) (notb_of hp (notb_lst _))
  exact ⟨e, s.set hn (.lst upd_same (r.mono e)) (fun m _ hm => hm) (Sim.same (s.nofz hn hp fun _ _ z => by cases z))⟩
def gAppend : AV → List AV → AH → Res AV
  | .ref n, [y], M => match M.objs[n]? with
    | some (.lst xs) => sized (xs.length + 1) (.ok .non (setL M n (xs ++ [y])))
    | _ => .stuck
  | _, _, _ => .stuck
theorem o_append {C : Cm} : OpM C rAppend gAppend := fun i M H x vs a as Q W s ra rs p => by
  cases ra with
  | @ref q n hn =>
    match as, rs, p with
    | [], _, p => exact False.elim p
    | _ :: _ :: _, _, p => exact False.elim p
    | [b], rs, p =>
      obtain ⟨y, rfl, ry⟩ := rs.one
      obtain ⟨c, hc, o⟩ := s.get hn
      simp only [gAppend, hc] at p
      cases o with
      | lst h1 h2 =>
        obtain ⟨hz, p⟩ := p.sized
        obtain ⟨e, s'⟩ := setL_at s hn (VRs.snoc ry h2) h1
        exact ⟨q, _, y, rfl, rfl, h1, by rw [h2.len]; omega, p _ i _ e s' .non⟩
      | dK _ _ => exact False.elim p
      | dT _ _ => exact False.elim p
  | _ => exact False.elim p
def strsOf : List AV → Option (List Str)
  | [] => some []
  | .str x :: r => (strsOf r).map (x :: ·)
  | _ :: _ => none
theorem strsOf_at {K : PySem.W.Frag} {i : Ix} {H : Hp} : ∀ {us : List V} {as : List AV} {ys : List Str}, VRs K i H us as → strsOf as = some ys → us = ys.map V.str
  | _, _, _, .nil, h => by cases h; rfl
  | _, _, ys, .cons (a := a) (as := as) r t, h => by
    cases r with
    | str z =>
      simp only [strsOf] at h
      cases e : strsOf as with
      | none => rw [e] at h; cases h
      | some zs =>
        rw [e] at h
        cases h
        rw [List.map_cons, strsOf_at t e]
    | _ => cases h
def rJoin (K : PySem.W.Frag) : V → List V → Hp → VK → Prop := fun x xs H Q => ∃ a p, ∃ ys : List Str, x = .str a ∧ xs = [.ref p] ∧ (SqL K H p (ys.map V.str) ∨ SqT K H p (ys.map V.str)) ∧
    (ys.map (·.length)).sum + ys.length * a.length ≤ 16777216 ∧ Q (.str (Txt.join a ys)) H
theorem x_join {X : Cx} : MtR X "str.join" (rJoin X.K) := mt_join
def gJoin : AV → List AV → AH → Res AV
  | .str a, [b], M => match itemsOf M b with
    | some xs => match strsOf xs with
      | some ys => if (ys.map (·.length)).sum + ys.length * a.length ≤ 16777216 then .ok (.str (Txt.join a ys)) M else .stuck
      | none => .stuck
    | none => .stuck
  | _, _, _ => .stuck
theorem o_join {C : Cm} : OpM C (rJoin C.K) gJoin := fun i M H x vs a as Q W s ra rs p => by
  cases ra with
  | str z =>
    match as, rs, p with
    | [], _, p => exact False.elim p
    | _ :: _ :: _, _, p => exact False.elim p
    | [b], rs, p =>
      obtain ⟨y, rfl, ry⟩ := rs.one
      simp only [gJoin] at p
      cases e : itemsOf M b with
      | none => rw [e] at p; exact False.elim p
      | some xs =>
        simp only [e] at p
        cases e2 : strsOf xs with
        | none => rw [e2] at p; exact False.elim p
        | some ys =>
          simp only [e2] at p
          obtain ⟨hz, p⟩ := post.need p
          obtain ⟨q, us, rfl, h1, h2⟩ := itemsOf_at s ry e
          have e3 := strsOf_at h2 e2
          subst e3
          exact ⟨z, q, ys, rfl, rfl, h1, hz, p.now s (.str _)⟩
  | _ => exact False.elim p
def gListV : List AV → AH → Res AV
  | [a], M => match itemsOf M a with
    | some xs => .ok (.lst xs) M
    | none => .stuck
  | _, _ => .stuck
def gListR : List AV → AH → Res AV
  | [a], M => match itemsOf M a with
    | some xs => .ok (.ref M.objs.length) ⟨M.objs ++ [.lst xs], M.fz⟩
    | none => .stuck
  | _, _ => .stuck
def rListOf (K : PySem.W.Frag) : List V → Hp → VK → Prop := fun xs H Q => ∃ p ys, xs = [.ref p] ∧ (SqL K H p ys ∨ SqT K H p ys) ∧ ∀ l, H l = none → Q (.ref l) (upd H l (.lst ys))
theorem x_list {X : Cx} : CallR X (.type "list") (rListOf X.K) := call_list_of
theorem o_listV {C : Cm} : OpC C (rListOf C.K) gListV := fun i M H xs as Q W s r p => by
  match as, r, p with
  | [], _, p => exact False.elim p
  | _ :: _ :: _, _, p => exact False.elim p
  | [a], r, p =>
    obtain ⟨x, rfl, rx⟩ := r.one
    simp only [gListV] at p
    cases e : itemsOf M a with
    | none => rw [e] at p; exact False.elim p
    | some ys =>
      rw [e] at p
      obtain ⟨q, us, rfl, h1, h2⟩ := itemsOf_at s rx e
      exact ⟨q, us, rfl, h1, new_lst s h2 p⟩
def gTuple1 (M : AH) : AV → Res AV
  | .tuc xs => .ok (.tuc xs) M
  | a => match itemsOf M a with
    | some xs => .ok (.tup xs) M
    | none => .stuck
def gTuple : List AV → AH → Res AV
  | [a], M => gTuple1 M a
  | _, _ => .stuck
def rTupleOf (K : PySem.W.Frag) : List V → Hp → VK → Prop := fun xs H Q => ∃ p ys, xs = [.ref p] ∧ ((SqL K H p ys ∧ ∀ l, H l = none → Q (.ref l) (upd H l (.tup ys))) ∨ (SqT K H p ys ∧ Q (.ref p) H))
theorem x_tuple {X : Cx} : CallR X (.type "tuple") (rTupleOf X.K) := call_tuple_of
theorem o_tuple {C : Cm} : OpC C (rTupleOf C.K) gTuple := fun i M H xs as Q W s r p => by
  match as, r, p with
  | [], _, p => exact False.elim p
  | _ :: _ :: _, _, p => exact False.elim p
  | [a], r, p =>
    obtain ⟨x, rfl, rx⟩ := r.one
    by_cases hu : ∃ ys, a = .tuc ys
    · obtain ⟨ys, rfl⟩ := hu
      cases rx with
      | @tuc q us _ h1 h2 =>
        have p : post C (RV C) i H (.ok (.tuc ys) M) Q W := p
        exact ⟨q, us, rfl, .inr ⟨h1.sq, p.now s (.tuc h1 h2)⟩⟩
    have p : post C (RV C) i H (match itemsOf M a with | some xs => .ok (.tup xs) M | none => .stuck) Q W := by
      simp only [gTuple] at p
      cases a <;> first | exact p | exact absurd ⟨_, rfl⟩ hu
    by_cases ht : ∃ ys, a = .tup ys
    · obtain ⟨ys, rfl⟩ := ht
      cases rx with
      | @tup q us _ h1 hn h2 =>
        have p : post C (RV C) i H (.ok (.tup ys) M) Q W := p
        exact ⟨q, us, rfl, .inr ⟨sq_of h1, p.now s (.tup h1 hn h2)⟩⟩
    · have hl : itemsOf M a = lstR M a := by cases a <;> first | rfl | exact absurd ⟨_, rfl⟩ ht | exact absurd ⟨_, rfl⟩ hu
      rw [hl] at p
      cases e : lstR M a with
      | none => rw [e] at p; exact False.elim p
      | some ys =>
        rw [e] at p
        obtain ⟨q, us, rfl, h1, h2⟩ := lstR_at s rx e
        exact ⟨q, us, rfl, .inl ⟨h1, new_tup s h2 p⟩⟩
end Mx

namespace Mx
open PySem L2 PySem.Spec
section
variable {X : Cx} {W : WX} {k : Nat}
theorem At.blk (T : At X W k) {s : Shared} {H : Hp} {scope : Scope} {cenv : PySem.Env} {fp : List Addr} : At (X.blk s H scope cenv fp) W0 k := ⟨T.room, T.gd, fun u s' ⟨_, _, _, _, _, _, _, _, _, _, _, _, _, _, _, _, w⟩ => w, PassesOwn.never⟩
theorem At.mono (T : At X W k) {j : Nat} (h : j ≤ k) : At X W j := ⟨T.room.mono h, T.gd, T.tk, T.own⟩
theorem At.u1 (T : At X W k) : X.A.units + 1 < cLine := hu_of T.room
theorem At.u64 (T : At X W k) : X.A.units + 64 < cLine := T.room.units
end
structure Dn (K : PySem.W.Frag) (mg : Str → Option Value) (x : Str) (st : Stmt) (ps : List Str) (f : Addr) (fd : FuncData) : Prop where
  F : Fun K x x st f fd
  b : Binds K fd ps []
  g : mg x = some (.ref f)
section
variable {X : Cx} {W : WX} {pos p : Pos} {e : Expr} {es : List Expr} {n : AM} {m : List AV → AH → Res AV} {x : Str} {st : Stmt} {f : Addr} {fd : FuncData} {ps : List Str} {j k : Nat}
theorem c_call (D : Dn X.K X.mg x st ps f fd) (F : GnOk X.prog X.w X.K X.mg X.base j f fd ps (spM (cm X) m)) (T : At X W k) (hj : j ≤ k) (hg : Gl X x) (ha : PA X (e :: es) (tA (cm X) W n)) (hdb : (x == ("__debug__" : Str)) = false := by decide)
    (he : starEach (e :: es) X.env = (false, eval e X.env) :: starEach es X.env := by rfl) (hpl : (backTo pos (starEach es X.env)).any (·.1) = false := by rfl) :
    PE X (.Call (.Name x p) (e :: es) [] pos) (tE (cm X) W (mCall m n)) := e_call (F.mono hj) T hg D.g D.F.kp D.b ha hdb he hpl
end
def mRng1 (n : AM) : IM := fun G M => (n G M).bind fun as M1 => match as with
  | [x] => gRng [x] M1
  | _ => .stuck
def mRng2 (n : AM) : IM := fun G M => (n G M).bind fun as M1 => match as with
  | [x, y] => gRng [x, y] M1
  | _ => .stuck
section
variable {X : Cx} {W : WX} {tg a b : Expr} {n : AM} {p pos : Pos}
theorem r_rng1 (hg : Gl X "range") (hm : X.mg "range" = none) (ha : PA X [a] (tA (cm X) W n)) (hs : starEach [a] X.env = [(false, eval a X.env)] := by rfl) : PI X tg (.Call (.Name "range" p) [a] [] pos) (tI (cm X) W (mRng1 n)) := i_rng1 hg hm ha hs
end
end Mx

namespace Mx
open PySem hiding Env
open L2 PySem.Spec PyProof.Rows PySem.W
def notN : AV → Bool
  | .non => false
  | .dK _ => false
  | .dT _ => false
  | .ref _ => false
  | _ => true
theorem each_of_vals {β : Type} {f : β → V} : ∀ {bs : List β} {us : List Value}, Vals (bs.map f) us → EachIs (fun u b => RelV (f b) u) us bs
  | [], _, h => by cases h; exact .nil
  | b :: r, _, h => by
    cases h with
    | cons h1 h2 => exact .cons h1 (each_of_vals h2)
theorem vals_of_each {β : Type} {f : β → V} : ∀ {bs : List β} {us : List Value}, EachIs (fun u b => RelV (f b) u) us bs → Vals (bs.map f) us
  | [], _, h => by cases h; exact .nil
  | b :: r, _, h => by
    cases h with
    | cons h1 h2 => exact .cons h1 (vals_of_each h2)
abbrev encA (b : V × AV) : PyData := toD b.2
noncomputable def sortVA (bs : List (V × AV)) : List (V × AV) := bs.mergeSort (dataLe false encA)
structure SrtOk (K : PySem.W.Frag) (H : Hp) (bs : List (V × AV)) : Prop where
  dp : ∀ b ∈ bs, Dp K H b.1 (toD b.2) ∧ pdl 60 (toD b.2) = true
  al : AllAlike (bs.map encA)
  so : Sortable (bs.map encA)
def rSortA (K : PySem.W.Frag) : List V → Hp → VK → Prop := fun xs H Q => ∃ (a : Addr) (bs : List (V × AV)), xs = [.ref a] ∧ SqL K H a (bs.map (·.1)) ∧ SrtOk K H bs ∧ ∀ p, H p = none → Q (.ref p) (upd H p (.lst ((sortVA bs).map (·.1))))
section
variable {X : Cx}
theorem SrtOk.reads {pins : List (Addr × Obj)} {s : Shared} {σ : L2.St} {H : Hp} {bs : List (V × AV)} {us : List Value} (h : SrtOk X.K H bs) (I : Inv X pins σ H s) (e : EachIs (fun u (b : V × AV) => RelV b.1 u) us bs) : EachIs (fun v b => ∃ as, Reads s.heap v (encA b) as) us bs :=
  (each_mem e).mono fun u b ⟨r, hb⟩ => Dp.reads I _ _ _ (h.dp b hb).1 r
theorem SrtOk.depth {H : Hp} {bs : List (V × AV)} (h : SrtOk X.K H bs) {n : Nat} (hn : n ≤ 4) (hu : X.A.units + 64 < cLine) : ∀ b ∈ bs, X.A.units + n + (encA b).depth < cLine := fun b hb => by
  obtain ⟨e1, _⟩ := pdl_depth _ _ (h.dp b hb).2
  show X.A.units + n + (toD b.2).depth < cLine
  omega
theorem cr_sortA (hu : X.A.units + 64 < cLine) : CallR X (.builtin "sorted") (rSortA X.K) := by
  intro pins s σ H vs us Q I r h
  obtain ⟨a, bs, rfl, hs, ok, q⟩ := h
  obtain ⟨its, rv, hl, hz⟩ := I.list hs
  rw [Vals.ref1 r]
  have e := each_of_vals (f := fun b : V × AV => b.1) rv
  have hlb : bs.length ≤ sizeLine := by
    rwa [List.length_map] at hz
  refine sorted_data hl.isList e (ok.reads I e) ok.al ok.so hlb (fun b hb => ok.depth (by decide) hu b hb) fun out hlen hout => ?_
  obtain ⟨ep, he'⟩ := PyProof.Rows.sortedAll_at s.heap its (List.toArray out)
  have hv := vals_of_each (f := fun b : V × AV => b.1) hout
  refine ⟨.ref _, upd H (s.heap.objs.size + 1) (.lst ((sortVA bs).map (·.1))), I.laid (t' := s.toks) (fun _ _ => PyProof.Rows.sortedAll_old) (Nat.le_succ _) ⟨?_, out, ep, hv, he'⟩, rfl, q _ (I.hok.fresh (Nat.le_succ _))⟩
  have := hv.length
  show ((bs.mergeSort (dataLe false encA)).map fun b => b.1).length ≤ sizeLine
  omega
end
def likeA (as : List AV) : Bool := as.all fun a => as.all fun b => alike (toD a) (toD b)
def tup1 : AV → Bool
  | .tup (_ :: _) => true
  | _ => false
def notT : AV → Bool
  | .tup _ => false
  | .tuc _ => false
  | a => notN a
def sortOk (as : List AV) : Bool := as.all (plain 60) && likeA as && (as.all tup1 || as.all notT)
noncomputable def sortA (as : List AV) : List AV := as.mergeSort (dataLe false toD)
theorem sortVA_snd (bs : List (V × AV)) : (sortVA bs).map (·.2) = sortA (bs.map (·.2)) := by
  unfold sortVA sortA
  exact List.map_mergeSort fun a _ b _ => rfl
theorem vrs_zip {K : PySem.W.Frag} {i : Ix} {H : Hp} : ∀ {vs : List V} {as : List AV}, VRs K i H vs as → ∃ bs : List (V × AV), bs.map (·.1) = vs ∧ bs.map (·.2) = as ∧ ∀ b ∈ bs, VR K i H b.1 b.2
  | _, _, .nil => ⟨[], rfl, rfl, by simp⟩
  | _, _, .cons (v := v) (a := a) r t => by
    obtain ⟨bs, e1, e2, h⟩ := vrs_zip t
    refine ⟨(v, a) :: bs, by simp [e1], by simp [e2], fun b hb => ?_⟩
    rcases List.mem_cons.mp hb with z | z
    · rw [z]
      exact r
    · exact h b z
theorem vrs_unzip {K : PySem.W.Frag} {i : Ix} {H : Hp} : ∀ {bs : List (V × AV)}, (∀ b ∈ bs, VR K i H b.1 b.2) → VRs K i H (bs.map (·.1)) (bs.map (·.2))
  | [], _ => .nil
  | b :: r, h => .cons (h b (by simp)) (vrs_unzip fun c hc => h c (by simp [hc]))
theorem srt_of {K : PySem.W.Frag} {i : Ix} {H : Hp} {bs : List (V × AV)} (hr : ∀ b ∈ bs, VR K i H b.1 b.2) (h : sortOk (bs.map (·.2)) = true) : SrtOk K H bs := by
  unfold sortOk likeA at h
  simp only [Bool.and_eq_true, List.all_map, List.all_eq_true, Bool.or_eq_true, Function.comp] at h
  obtain ⟨⟨h1, h2⟩, h3⟩ := h
  refine ⟨fun b hb => ⟨dp_of b.2 60 b.1 (h1 b hb) (hr b hb), pdl_of 60 b.2 (h1 b hb)⟩, fun d hd e he => ?_, ?_⟩
  · obtain ⟨b, hb, rfl⟩ := List.mem_map.mp hd
    obtain ⟨c, hc, rfl⟩ := List.mem_map.mp he
    exact h2 b hb c hc
  · rcases h3 with h3 | h3
    · refine .inl fun d hd => ?_
      obtain ⟨b, hb, rfl⟩ := List.mem_map.mp hd
      have := h3 b hb
      show ∃ x r, toD b.2 = _
      cases e : b.2 with
      | tup xs =>
        rw [e] at this
        cases xs with
        | nil => cases this
        | cons x r => exact ⟨toD x, toDs r, rfl⟩
      | _ => rw [e] at this; cases this
    · refine .inr fun d hd => ?_
      obtain ⟨b, hb, rfl⟩ := List.mem_map.mp hd
      have := h3 b hb
      show toD b.2 ≠ .none ∧ ∀ xs, toD b.2 ≠ .tuple xs
      cases e : b.2 <;> rw [e] at this <;> first | (cases this; done) | exact ⟨(by intro z; rw [toD] at z; cases z), (by intro xs z; rw [toD] at z; cases z)⟩
def keyAV : Key → AV
  | .inl i => .int i
  | .inr x => .str x
def keysT (kvs : List (List Key × AV)) : List AV := kvs.map fun p => .tup (p.1.map keyAV)
def keysK (kvs : List (Key × AV)) : List AV := kvs.map fun p => keyAV p.1
noncomputable def gSorted : List AV → AH → Res AV
  | [a], M => match lstR M a with
    | some xs => if sortOk xs = true then .ok (.lst (sortA xs)) M else .stuck
    | none => match dctT M a with
      | some kvs => if sortOk (keysT kvs) = true then .ok (.lst (sortA (keysT kvs))) M else .stuck
      | none => .stuck
  | _, _ => .stuck
def rSortT (K : PySem.W.Frag) : List V → Hp → VK → Prop := fun xs H Q => ∃ (d : Addr) (kvs : List (List Key × V)), xs = [.ref d] ∧ Rd H d (.dT kvs) ∧
  ∀ bs : List (V × AV), bs.map (·.2) = kvs.map (fun p => AV.tup (p.1.map keyAV)) → (∀ b ∈ bs, ∃ (c : Addr) (ks : List Key), b = (V.ref c, AV.tup (ks.map keyAV)) ∧ H c = some (.tup (ks.map kV))) → SrtOk K H bs ∧ ∀ p, H p = none → Q (.ref p) (upd H p (.lst ((sortVA bs).map (·.1))))
theorem iskeys_zip {H : Hp} {kvs : List (List Key × V)} {bs : List Addr} (h : IsKeys H kvs bs) : ∃ zs : List (V × AV), zs.map (·.2) = kvs.map (fun p => AV.tup (p.1.map keyAV)) ∧ zs.map (·.1) = bs.map V.ref ∧ ∀ b ∈ zs, ∃ (c : Addr) (ks : List Key), b = (V.ref c, AV.tup (ks.map keyAV)) ∧ H c = some (.tup (ks.map kV)) := by
  unfold IsKeys at h
  induction h with
  | nil => exact ⟨[], rfl, rfl, by simp⟩
  | @cons p b ps bs h1 h2 ih =>
    obtain ⟨zs, e1, e2, e3⟩ := ih
    refine ⟨(.ref b, .tup (p.1.map keyAV)) :: zs, by simp [e1], by simp [e2], fun z hz => ?_⟩
    rcases List.mem_cons.mp hz with rfl | hz
    · exact ⟨b, p.1, rfl, h1⟩
    · exact e3 z hz
theorem cr_sortT' {X : Cx} (hc : X.calm = true) (hu : X.A.units + 64 < cLine) : CallR X (.builtin "sorted") (rSortT X.K) := by
  intro pins s σ H xs us Q I r h
  obtain ⟨d, kvs, rfl, hd, q⟩ := h
  obtain ⟨u, rfl, rx⟩ := r.one
  cases rx
  obtain ⟨z, hs, ks, pr, o, es, ep, ho, hx, hdt, he, hn⟩ := (show ObjOk X.prog X.w H s.heap d (.dT kvs) from hd.ok I.hok)
  have l1 : es.size = ks.length := size_of_entries he
  have l2 : kvs.length = ks.length := Paired.length pr
  obtain ⟨bs, b1, b2, b3⟩ := iskeys_zip (isKeys_of pr)
  obtain ⟨ok, q⟩ := q bs b1 b3
  have hlen : bs.length = ks.length := by
    have := congrArg List.length b2
    simpa using this
  refine Calls.call_function_entry PyProof.Rows.kind_sorted PyProof.Rows.plain_sorted PyProof.Rows.entry_sorted (PyProof.Rows.args_sorted1 _) ?_
  unfold Builtin.«sorted»
  refine wpAny_bind (m := checkCount "sorted" 1 1 _) (wpAny_pure ?_)
  refine wpAny_bind (PySem.W.kdu_collect (A := X.A.in1) (kdl_raw hs hx hdt) (I.ok.hd hc) ho (by omega) fun h' tk acc hk hacc => ?_)
  have ea : acc.toList = ks.map fun x => Value.ref x.2.1 := by
    have hl : acc.toList.length = ks.length := by rw [Array.length_toList, hacc.1]; exact l1
    apply List.ext_getElem?
    intro j
    rw [List.getElem?_map]
    cases hj : acc.toList[j]? with
    | none =>
      have h1 := List.getElem?_eq_none_iff.mp hj
      rw [List.getElem?_eq_none (by omega)]
      all_goals rfl
    | some v =>
      obtain ⟨en, hen, hv⟩ := hacc.2 j v (by rw [← Array.getElem?_toList]; exact hj)
      have qe := entry_at he j
      rw [hen] at qe
      cases hb : ks[j]? with
      | none =>
        rw [hb] at qe
        exact nomatch (show some en = none from qe)
      | some b =>
        rw [hb] at qe
        have e2 : en = entryOfKey (tupleKind (mixKind X.prog X.w)) b := Option.some.inj qe
        rw [hv, e2]
        all_goals rfl
  have eb : acc.toList = (ks.map fun x => x.2.1).map Value.ref := by rw [ea, List.map_map]; all_goals rfl
  have rv : Vals (bs.map fun b : V × AV => b.1) acc.toList := by
    rw [eb, show (bs.map fun b : V × AV => b.1) = (ks.map fun x => x.2.1).map V.ref from b2]
    exact vals_refs _
  have hal : acc.toList.length = bs.length := by rw [← rv.length, List.length_map]
  have I1 : Inv X pins σ H { s with heap := h', toks := tk } := I.kept hk
  refine wpAny_bind (wpAny_newList ?_ (by omega))
  have hoL : (h'.push (seqObj "list" acc.toList.toArray 0)).get? h'.objs.size = some (seqObj "list" acc.toList.toArray 0) := Heap.get?_push_size _ rfl
  show wpAny _ _ _ _ _ { s with heap := h'.push (seqObj "list" acc.toList.toArray 0), toks := tk }
  have e := each_of_vals (f := fun b : V × AV => b.1) rv
  have er : EachIs (fun v b => ∃ as, Reads (sortingHeap (h'.push (seqObj "list" acc.toList.toArray 0)) h'.objs.size acc.toList) v (encA b) as) acc.toList bs :=
    (ok.reads I1 e).mono fun _ _ ⟨as, r⟩ => ⟨as, PyProof.Rows.Reads.keeps (fun b o eb => sortingHeap_old (Nat.ne_of_lt (Heap.lt_size eb)) (Heap.get?_push_of_some _ eb)) r⟩
  refine wpAny_bind (wpAny_holding (wpAny_call_entry PyProof.Rows.slot_list_sort ⟨_, hoL, rfl⟩ PyProof.Rows.entry_list_sort
    (list_sort_vals (κ := dataKind (sortingHeap (h'.push (seqObj "list" acc.toList.toArray 0)) h'.objs.size acc.toList) (bs.map encA)) hoL
      (SortsAt.data (s := { s with heap := sortingHeap (h'.push (seqObj "list" acc.toList.toArray 0)) h'.objs.size acc.toList, toks := tk }) (each_map (R := fun v d => ∃ as, Reads (sortingHeap (h'.push (seqObj "list" acc.toList.toArray 0)) h'.objs.size acc.toList) v d as) encA er) ok.al ok.so (bound_map fun b hb => show X.A.units + 1 + 1 + (encA b).depth < cLine from ok.depth (n := 2) (by decide) hu b hb)) (by omega) ⟨_, rfl, ?_⟩)
    (PyProof.Rows.args_list_sort _)))
  have hout := sortVals_data false e er ok.al
  generalize sortVals (dataKind (sortingHeap (h'.push (seqObj "list" acc.toList.toArray 0)) h'.objs.size acc.toList) (bs.map encA)) false acc.toList acc.toList = out at hout ⊢
  obtain ⟨e', he'⟩ := PyProof.Rows.sortedHeap_at (vs := acc.toList) (out := out.toArray) hoL
  have hv := vals_of_each (f := fun b : V × AV => b.1) hout
  have hlo : ((sortVA bs).map (·.1)).length ≤ sizeLine := by
    unfold sortVA
    rw [List.length_map, List.length_mergeSort]
    omega
  refine wpAny_pure ⟨_, rfl, .ref h'.objs.size, upd H h'.objs.size (.lst ((sortVA bs).map (·.1))), I1.laid (t' := tk) (fun b u e => ?_) (Nat.le_refl _)
    (show ObjOk X.prog X.w _ _ _ (.lst ((sortVA bs).map (·.1))) from ⟨hlo, out, e', hv, he'⟩), rfl, q _ (I1.hok.fresh (Nat.le_refl _))⟩
  have hb : b < h'.objs.size := Heap.lt_size e
  rw [PyProof.Rows.sortedHeap_old (Nat.ne_of_lt hb) (by rw [size_push']; exact Nat.lt_succ_of_lt hb)]
  exact Heap.get?_push_of_some _ e
theorem Sim.notin_tup {K : PySem.W.Frag} {T : List (Addr × Str)} {i : Ix} {M : AH} {H : Hp} (s : Sim K T i M H) {c : Addr} {us : List V} (h : H c = some (.tup us)) : c ∉ i := fun z => by
  rcases z with z | z
  · obtain ⟨n, hn, e⟩ := List.mem_iff_getElem.mp z
    obtain ⟨d, _, o⟩ := s.get (n := n) (a := c) (by rw [List.getElem?_eq_getElem hn, e])
    cases o with
    | lst h1 _ => rw [h] at h1; cases h1
    | dK h1 _ =>
      rcases h1 with h1 | ⟨_, _, h1⟩ <;> rw [h] at h1 <;> cases h1
    | dT h1 _ =>
      rcases h1 with h1 | ⟨_, _, h1⟩ <;> rw [h] at h1 <;> cases h1
  · exact s.nt c z us h
theorem vrk_key {K : PySem.W.Frag} {i : Ix} {H : Hp} : ∀ k : Key, VR K i H (kV k) (keyAV k)
  | .inl i => .int i
  | .inr x => .str x
theorem vrk_keys {K : PySem.W.Frag} {i : Ix} {H : Hp} : ∀ ks : List Key, VRs K i H (ks.map kV) (ks.map keyAV)
  | [] => .nil
  | k :: r => .cons (vrk_key k) (vrk_keys r)
theorem vr_keyT {K : PySem.W.Frag} {T : List (Addr × Str)} {i : Ix} {M : AH} {H : Hp} (s : Sim K T i M H) {c : Addr} {ks : List Key} (h : H c = some (.tup (ks.map kV))) : VR K i H (.ref c) (.tup (ks.map keyAV)) := .tup h (s.notin_tup h) (vrk_keys ks)
theorem vrt_keys {K : PySem.W.Frag} {i : Ix} {H : Hp} : ∀ {us : List (List Key × V)} {as : List (List Key × AV)}, VRt K i H us as → us.map (fun p => AV.tup (p.1.map keyAV)) = keysT as
  | _, _, .nil => rfl
  | _, _, .cons r t => by
    have e := vrt_keys t
    simp only [keysT, List.map_cons] at e ⊢
    rw [e]
def rSortAll (K : PySem.W.Frag) : List V → Hp → VK → Prop := fun xs H Q => rSortA K xs H Q ∨ rSortT K xs H Q
theorem x_sorted {X : Cx} (hc : X.calm = true) (hu : X.A.units + 64 < cLine) : CallR X (.builtin "sorted") (rSortAll X.K) := fun pins s σ H xs us Q I r h => by
  rcases h with h | h
  · exact cr_sortA hu pins s σ H xs us Q I r h
  · exact cr_sortT' hc hu pins s σ H xs us Q I r h
theorem o_sorted {C : Cm} : OpC C (rSortAll C.K) gSorted := fun i M H xs as Q W s r p => by
  match as, r, p with
  | [], _, p => exact False.elim p
  | _ :: _ :: _, _, p => exact False.elim p
  | [a], r, p =>
    obtain ⟨v, rfl, rv⟩ := r.one
    simp only [gSorted] at p
    cases e : lstR M a with
    | some ys =>
      simp only [e] at p
      by_cases ok : sortOk ys = true
      · simp only [ok, if_true] at p
        obtain ⟨q, us, rfl, h1, h2⟩ := lstR_at s rv e
        obtain ⟨bs, rfl, rfl, hb⟩ := vrs_zip h2
        refine .inl ⟨q, bs, rfl, h1, srt_of hb ok, fun l hl => ?_⟩
        have hr : VRs C.K i H ((sortVA bs).map (·.1)) (sortA (bs.map (·.2))) := by
          rw [← sortVA_snd]
          exact vrs_unzip fun b hb' => hb b (by
            unfold sortVA at hb'
            exact List.mem_mergeSort.mp hb')
        exact p _ i _ (Ext.fresh hl) (s.fresh hl) (.lst upd_same (s.notin hl) (hr.mono (Ext.fresh hl)))
      · simp only [ok, if_false] at p
        exact False.elim p
    | none =>
      simp only [e] at p
      cases e2 : dctT M a with
      | none => simp only [e2] at p; exact False.elim p
      | some kvs =>
        simp only [e2] at p
        by_cases ok : sortOk (keysT kvs) = true
        · simp only [ok, if_true] at p
          obtain ⟨q, n, us, rfl, rfl, h1, h2, h3, h4, h5⟩ := dctT_at s rv e2
          refine .inr ⟨q, us, rfl, h3, fun bs hb1 hb2 => ?_⟩
          rw [vrt_keys h5] at hb1
          have hr : ∀ b ∈ bs, VR C.K i H b.1 b.2 := fun b hb => by
            obtain ⟨c, ks, rfl, hc⟩ := hb2 b hb
            exact vr_keyT s hc
          rw [← hb1] at ok
          refine ⟨srt_of hr ok, fun l hl => ?_⟩
          have hr2 : VRs C.K i H ((sortVA bs).map (·.1)) (sortA (keysT kvs)) := by
            rw [← hb1, ← sortVA_snd]
            exact vrs_unzip fun b hb' => hr b (by
              unfold sortVA at hb'
              exact List.mem_mergeSort.mp hb')
          exact p _ i _ (Ext.fresh hl) (s.fresh hl) (.lst upd_same (s.notin hl) (hr2.mono (Ext.fresh hl)))
        · simp only [ok, if_false] at p
          exact False.elim p
def rListD (K : PySem.W.Frag) : List V → Hp → VK → Prop := fun xs H Q => rListOf K xs H Q ∨
  (∃ d kvs, xs = [V.ref d] ∧ Rd H d (.dT kvs) ∧ ∀ p bs, H p = none → IsKeys H kvs bs → Q (.ref p) (upd H p (.lst (bs.map V.ref)))) ∨
  (∃ (a : Addr) (kvs : List (Key × V)), xs = [.ref a] ∧ Rd H a (.dK kvs) ∧ ∀ p, H p = none → Q (.ref p) (upd H p (.lst (kvs.map fun kv => kV kv.1))))
theorem x_listD {X : Cx} (hc : X.calm = true) : CallR X (.type "list") (rListD X.K) := fun pins s σ H xs us Q I r h => by
  rcases h with h | h | h
  · exact x_list pins s σ H xs us Q I r h
  · exact call_list_dT hc pins s σ H xs us Q I r h
  · exact call_listD hc pins s σ H xs us Q I r h
def gListD : List AV → AH → Res AV
  | [a], M => match itemsOf M a with
    | some xs => .ok (.lst xs) M
    | none => match dctT M a with
      | some kvs => .ok (.lst (keysT kvs)) M
      | none => match dctK M a with
        | some kvs => .ok (.lst (keysK kvs)) M
        | none => .stuck
  | _, _ => .stuck
theorem vrt_iskeys {K : PySem.W.Frag} {T : List (Addr × Str)} {i : Ix} {M : AH} {H : Hp} (s : Sim K T i M H) {us : List (List Key × V)} {as : List (List Key × AV)} {bs : List Addr} (r : VRt K i H us as) (h : IsKeys H us bs) : VRs K i H (bs.map V.ref) (keysT as) := by
  obtain ⟨zs, e1, e2, e3⟩ := iskeys_zip h
  rw [← e2, ← vrt_keys r, ← e1]
  refine vrs_unzip fun b hb => ?_
  obtain ⟨c, ks, rfl, hc⟩ := e3 b hb
  exact vr_keyT s hc
theorem vrk_keysK {K : PySem.W.Frag} {i : Ix} {H : Hp} : ∀ {us : List (Key × V)} {as : List (Key × AV)}, VRk K i H us as → VRs K i H (us.map fun kv => kV kv.1) (keysK as)
  | _, _, .nil => .nil
  | _, _, .cons (k := k) r t => .cons (vrk_key k) (vrk_keysK t)
theorem o_listD {C : Cm} : OpC C (rListD C.K) gListD := fun i M H xs as Q W s r p => by
  match as, r, p with
  | [], _, p => exact False.elim p
  | _ :: _ :: _, _, p => exact False.elim p
  | [a], r, p =>
    obtain ⟨x, rfl, rx⟩ := r.one
    simp only [gListD] at p
    cases e : itemsOf M a with
    | some ys =>
      simp only [e] at p
      obtain ⟨q, us, rfl, h1, h2⟩ := itemsOf_at s rx e
      exact .inl ⟨q, us, rfl, h1, fun l hl => p _ i _ (Ext.fresh hl) (s.fresh hl) (.lst upd_same (s.notin hl) (h2.mono (Ext.fresh hl)))⟩
    | none =>
      simp only [e] at p
      cases e2 : dctT M a with
      | some kvs =>
        simp only [e2] at p
        obtain ⟨q, n, us, rfl, rfl, h1, h2, h3, h4, h5⟩ := dctT_at s rx e2
        exact .inr (.inl ⟨q, us, rfl, h3, fun l bs hl hk => p _ i _ (Ext.fresh hl) (s.fresh hl) (.lst upd_same (s.notin hl) ((vrt_iskeys s h5 hk).mono (Ext.fresh hl)))⟩)
      | none =>
        simp only [e2] at p
        cases e3 : dctK M a with
        | none => simp only [e3] at p; exact False.elim p
        | some kvs =>
          simp only [e3] at p
          obtain ⟨q, n, us, rfl, rfl, h1, h2, h3, h4, h5⟩ := dctK_at s rx e3
          exact .inr (.inr ⟨q, us, rfl, h3, fun l hl => p _ i _ (Ext.fresh hl) (s.fresh hl) (.lst upd_same (s.notin hl) ((vrk_keysK h5).mono (Ext.fresh hl)))⟩)
def intsOf : List AV → Option (List Int)
  | [] => some []
  | .int i :: r => (intsOf r).map (i :: ·)
  | _ :: _ => none
theorem intsOf_at {K : PySem.W.Frag} {i : Ix} {H : Hp} : ∀ {us : List V} {as : List AV} {ns : List Int}, VRs K i H us as → intsOf as = some ns → us = ns.map V.int
  | _, _, _, .nil, e => by cases e; rfl
  | _, _, _, .cons (a := a) r t, e => by
    cases a with
    | int k =>
      simp only [intsOf] at e
      cases q : intsOf _ with
      | none => rw [q] at e; cases e
      | some ms =>
        rw [q] at e
        cases e
        cases r
        rw [List.map_cons, ← intsOf_at t q]
    | _ => cases e
def maxI (n : Int) (ns : List Int) : Int := ns.foldl max n
end Mx

namespace Mx
open PySem hiding Env
open L2 PySem.Spec PyProof.Rows PySem.W
theorem PK.imp {X : Cx} {kws : List Keyword} {t t' : TA} (h : PK X kws t) (f : ∀ σ H Q, t' σ H Q → t σ H Q) : PK X kws t' := ⟨fun pos pins s σ H Q I q => h.run pos pins s σ H Q I (f σ H Q q)⟩
section
variable {X : Cx} {W : WX} {pos p kpos : Pos} {e : Expr} {es : List Expr} {kws : List Keyword} {m : EM} {n k : AM} {nm : Option Str} {x : Str} {id : String} {ks : List Str}
theorem k_nil : PK X [] (tA (cm X) W mNil) := PK.imp pk_nil fun σ H Q ⟨i, G, M, s, r, p⟩ => p.now s .nil
theorem k_cons (he : PE X e (tE (cm X) W m)) (hr : PK X kws (tA (cm X) W n)) : PK X (⟨nm, e, kpos⟩ :: kws) (tA (cm X) W (mCons m n)) :=
  PK.imp (pk_cons he hr) fun σ H Q h => by
    have h1 := tM.bind (R := RV (cm X)) (m := m) (f := fun G a M1 => (n G M1).bind fun as M2 => .ok (a :: as) M2) h
    refine tM.imp h1 fun x H1 ⟨j, G, a, M, s, r, rr, p⟩ => ?_
    exact ⟨j, G, M, s, r, (post.bind (R := RVs (cm X)) p).imp (fun xs H2 ⟨k, as, M2, e2, s2, rs, p2⟩ => p2.now s2 (.cons (rr.mono e2) rs)) fun _ _ _ z => z⟩
def mCallK (g : List AV → List AV → AH → Res AV) (n k : AM) : EM := fun G M => (n G M).bind fun as M1 => (k G M1).bind fun zs M2 => g as zs M2
def OpCK (C : Cm) (r : List V → List V → Hp → VK → Prop) (g : List AV → List AV → AH → Res AV) : Prop := ∀ i M H xs zs as bs Q W, Sim C.K C.tb i M H → VRs C.K i H xs as → VRs C.K i H zs bs → post C (RV C) i H (g as bs M) Q W → r xs zs H Q
theorem e_callBK {r : List V → List V → Hp → VK → Prop} {g : List AV → List AV → AH → Res AV} (hc : CallRK X (.builtin id) ks r) (hg : OpCK (cm X) r g) (hgl : Gl X x) (hm : X.mg x = none) (hv : bootBuiltins x = some (.builtin id)) (ha : PA X (e :: es) (tA (cm X) W n)) (hk : PK X kws (tA (cm X) W k))
    (hn : x ≠ "__name__" := by decide) (hdb : (x == ("__debug__" : Str)) = false := by decide)
    (he : backTo pos (starEach (e :: es) X.env) = (false, eval e X.env) :: backTo pos (starEach es X.env) := by rfl) (hpl : (backTo pos (starEach (e :: es) X.env)).any (·.1) = false := by rfl)
    (hall : (backToKw pos (keywordEach kws X.env)).all (·.1.isSome) = true := by rfl) (hnone : (backToKw pos (keywordEach kws X.env)).any (·.1.isNone) = false := by rfl) (hks : (backToKw pos (keywordEach kws X.env)).filterMap (·.1) = ks := by rfl) :
    PE X (.Call (.Name x p) (e :: es) kws pos) (tE (cm X) W (mCallK g n k)) :=
  PE.imp (pe_callBK hc hgl hm hv ha hk hn hdb he hpl hall hnone hks) fun σ H Q h => by
    have h1 := tM.bind (R := RVs (cm X)) (m := n) (f := fun G as M1 => (k G M1).bind fun zs M2 => g as zs M2) h
    refine tM.imp h1 fun xs H1 ⟨j, G, as, M, s, r, rr, p⟩ => ?_
    exact ⟨j, G, M, s, r, (post.bind (R := RVs (cm X)) p).imp (fun zs H2 ⟨l, bs, M2, e2, s2, rs, p2⟩ => hg l M2 H2 xs zs as bs Q _ s2 (rr.mono e2) rs p2) fun _ _ _ z => z⟩
end
theorem reads_ints {h : Heap} : ∀ {us : List Value} {ns : List Int}, IntsAre us ns → ∃ as, ReadsAll h us (ns.map .int) as
  | _, _, .nil => ⟨_, .nil⟩
  | _, _, .cons _ _ r => by
    obtain ⟨as, q⟩ := reads_ints (h := h) r
    exact ⟨_, .cons (.int _ _) q⟩
theorem ints_alike (ns : List Int) : AlikeAll (ns.map PyData.int) := by
  refine ⟨fun x hx y hy => ?_, fun x hx => ?_⟩
  · obtain ⟨i, _, rfl⟩ := List.mem_map.mp hx
    obtain ⟨j, _, rfl⟩ := List.mem_map.mp hy
    simp only [alike]
  · obtain ⟨i, _, rfl⟩ := List.mem_map.mp hx
    intro z
    cases z
def maxD0 (d : Int) : List Int → Int
  | [] => d
  | n :: r => maxI n r
def rMaxDf (K : PySem.W.Frag) : List V → List V → Hp → VK → Prop := fun xs zs H Q => ∃ (a : Addr) (ns : List Int) (d : Int), xs = [.ref a] ∧ zs = [.int d] ∧ SqL K H a (ns.map V.int) ∧ Q (.int (maxD0 d ns)) H
theorem cr_maxDf {X : Cx} (hc : X.calm = true) (hu : X.A.units + 64 < cLine) : CallRK X (.builtin "max") [Str.ofString "default"] (rMaxDf X.K) := by
  intro pins s σ H xs zs us ws Q I rx rz h
  obtain ⟨a, ns, d, rfl, rfl, hs, q⟩ := h
  obtain ⟨its, rv, hl, hz⟩ := I.list hs
  rw [Vals.ref1 rx]
  obtain ⟨w1, rfl, e1⟩ := vals1 rz
  obtain ⟨t, rfl⟩ := e1
  obtain ⟨as, ra⟩ := reads_ints (h := s.heap) rv.ints
  refine max_list_default (A := X.A) (I.ok.hd hc) hl.isList (xs := ns.map .int) (as := as) (by simpa using ra) (ints_alike ns) (by rw [depth_ints]; omega) (fun e h' tk hk => ?_) (fun y ys i v h' tk bs e hv rd hk => ?_)
  · have e : ns = [] := by simpa using e
    subst e
    exact ⟨.int d, H, I.kept hk, ⟨t, rfl⟩, q⟩
  · cases ns with
    | nil => cases e
    | cons n r =>
      rw [List.map_cons] at e
      injection e with e1 e2
      subst e1
      subst e2
      rw [maxD_ints] at rd
      cases rd
      exact ⟨.int _, H, I.kept hk, ⟨_, rfl⟩, q⟩
def gMaxDf : List AV → List AV → AH → Res AV
  | [a], [.int d], M => match (lstR M a).bind intsOf with
    | some ns => .ok (.int (maxD0 d ns)) M
    | none => .stuck
  | _, _, _ => .stuck
theorem o_maxDf {C : Cm} : OpCK C (rMaxDf C.K) gMaxDf := fun i M H xs zs as bs Q W s r r2 p => by
  match as, bs, r, r2, p with
  | [a], [.int d], r, r2, p =>
    obtain ⟨x, rfl, rx⟩ := r.one
    obtain ⟨z, rfl, rz⟩ := r2.one
    cases rz
    simp only [gMaxDf] at p
    cases e : lstR M a with
    | none => simp only [e, Option.bind_none] at p; exact False.elim p
    | some ys =>
      simp only [e, Option.bind_some] at p
      cases e2 : intsOf ys with
      | none => simp only [e2] at p; exact False.elim p
      | some ns =>
        simp only [e2] at p
        obtain ⟨q, us, rfl, h1, h2⟩ := lstR_at s rx e
        rw [intsOf_at h2 e2] at h1
        exact ⟨q, ns, d, rfl, rfl, h1, p.now s (.int _)⟩
theorem foldmax_ge : ∀ (r : List Int) (n : Int), n ≤ r.foldl max n ∧ (∀ y ∈ r, y ≤ r.foldl max n) ∧ (r.foldl max n = n ∨ r.foldl max n ∈ r)
  | [], n => ⟨Int.le_refl _, by simp, .inl rfl⟩
  | x :: r, n => by
    obtain ⟨h1, h2, h3⟩ := foldmax_ge r (max n x)
    rw [List.foldl_cons]
    refine ⟨by omega, fun y hy => ?_, ?_⟩
    · rcases List.mem_cons.mp hy with rfl | hy
      · omega
      · exact h2 y hy
    · rcases h3 with h3 | h3
      · rw [h3]
        rcases Int.le_total n x with q | q
        · right
          have : max n x = x := by omega
          rw [this]
          simp
        · left
          omega
      · right
        simp [h3]
end Mx

namespace Mx
open PySem hiding Env
open L2 PySem.Spec
def lvA : AV → Option (List AV)
  | .lst xs => some xs
  | .fro xs => some xs
  | _ => none
def tvA : AV → Option (List AV)
  | .tup xs => some xs
  | .tuc xs => some xs
  | _ => none
def zipA (xs ys : List AV) : List AV := List.zipWith (fun a b => .tup [a, b]) xs ys
def enumA (xs : List AV) : List AV := xs.mapIdx fun i a => .tup [.int (i : Nat), a]
section
variable {C : Cm} {i : Ix} {M : AH} {H : Hp}
theorem lvA_at {v : V} {a : AV} {as : List AV} (r : VR C.K i H v a) (h : lvA a = some as) : ∃ p us, v = .ref p ∧ (∀ j H', Ext i j H H' → SqL C.K H' p us) ∧ VRs C.K i H us as := by
  cases r with
  | lst h1 hn h2 => cases h; exact ⟨_, _, rfl, fun k H2 e2 => SqL.of (e2.same hn h1), h2⟩
  | fro h1 h2 => cases h; exact ⟨_, _, rfl, kl_ext h1, h2⟩
  | _ => cases h
theorem tvA_at {v : V} {a : AV} {as : List AV} (r : VR C.K i H v a) (h : tvA a = some as) : ∃ p us, v = .ref p ∧ (∀ j H', Ext i j H H' → SqT C.K H' p us) ∧ VRs C.K i H us as := by
  cases r with
  | tup h1 hn h2 => cases h; exact ⟨_, _, rfl, fun k H2 e2 => sq_of (e2.same hn h1), h2⟩
  | tuc h1 h2 => cases h; exact ⟨_, _, rfl, fun k H2 e2 => (h1.mono e2).sq, h2⟩
  | _ => cases h
theorem pair_new {j : Ix} {M : AH} {H : Hp} {T : Addr} {x y : V} {a b : AV} (hT : H T = none) (s : Sim C.K C.tb j M H) (rx : VR C.K j H x a) (ry : VR C.K j H y b) :
    Ext j j H (upd H T (.tup [x, y])) ∧ Sim C.K C.tb j M (upd H T (.tup [x, y])) ∧ VR C.K j (upd H T (.tup [x, y])) (.ref T) (.tup [a, b]) :=
  ⟨Ext.fresh hT, s.fresh hT, .tup upd_same (s.notin hT) (.cons (rx.mono (Ext.fresh hT)) (.cons (ry.mono (Ext.fresh hT)) .nil))⟩
theorem it_rev {a : Addr} {us : List V} {as : List AV} (q : ∀ j H', Ext i j H H' → SqL C.K H' a us) (r : VRs C.K i H us as) : ItOk C i H (Itv C.K a us.length) ⟨as.reverse, none⟩ where
  go := fun k j M H' e _ _ hk => by
    have hk : k < as.length := by simpa using hk
    have h1 : us.length - 1 - k < us.length := by rw [r.len]; omega
    exact ⟨by rw [r.len]; exact hk, us, us[us.length - 1 - k], q j H' e, List.getElem?_eq_getElem h1⟩
  yld := fun k j M H' x H2 a' e s _ ha y => by
    obtain ⟨e1, y⟩ := y
    subst e1
    have hk : k < as.length := by
      have := (List.getElem?_eq_some_iff.mp ha).1
      simpa using this
    have ha : as.reverse[k]? = some a' := ha
    rw [List.getElem?_reverse hk] at ha
    obtain ⟨v, h1, h2⟩ := r.at ha
    have hx := y us (q j _ e)
    rw [r.len, h1] at hx
    cases hx
    exact ⟨Ext.refl, s, h2.mono e⟩
  stop := fun k j M H' e _ _ hk => by
    show us.length ≤ k
    rw [r.len]
    simpa using hk
theorem it_revT {a : Addr} {us : List V} {as : List AV} (q : ∀ j H', Ext i j H H' → SqT C.K H' a us) (r : VRs C.K i H us as) : ItOk C i H (RT.ItvT C.K a us.length) ⟨as.reverse, none⟩ where
  go := fun k j M H' e _ _ hk => by
    have hk : k < as.length := by simpa using hk
    have h1 : us.length - 1 - k < us.length := by rw [r.len]; omega
    exact ⟨by rw [r.len]; exact hk, us, us[us.length - 1 - k], q j H' e, List.getElem?_eq_getElem h1⟩
  yld := fun k j M H' x H2 a' e s _ ha y => by
    obtain ⟨e1, y⟩ := y
    subst e1
    have hk : k < as.length := by
      have := (List.getElem?_eq_some_iff.mp ha).1
      simpa using this
    have ha : as.reverse[k]? = some a' := ha
    rw [List.getElem?_reverse hk] at ha
    obtain ⟨v, h1, h2⟩ := r.at ha
    have hx := y us (q j _ e)
    rw [r.len, h1] at hx
    cases hx
    exact ⟨Ext.refl, s, h2.mono e⟩
  stop := fun k j M H' e _ _ hk => by
    show us.length ≤ k
    rw [r.len]
    simpa using hk
end
def gZip (as : List AV) (M : AH) : Res Src := match as with
  | [a, b] => match lvA a, lvA b with
    | some xs, some ys => .ok ⟨zipA xs ys, none⟩ M
    | _, _ => match tvA a, tvA b with
      | some xs, some ys => .ok ⟨zipA xs ys, none⟩ M
      | _, _ => .stuck
  | _ => .stuck
def mZip (n : AM) : IM := fun G M => (n G M).bind fun as M1 => gZip as M1
def gEnum (as : List AV) (M : AH) : Res Src := match as with
  | [a] => match lvA a with
    | some xs => .ok ⟨enumA xs, none⟩ M
    | _ => .stuck
  | _ => .stuck
def mEnum (n : AM) : IM := fun G M => (n G M).bind fun as M1 => gEnum as M1
def gRev (a : AV) (M : AH) : Res Src := match lvA a with
  | some xs => .ok ⟨xs.reverse, none⟩ M
  | none => match tvA a with
    | some xs => .ok ⟨xs.reverse, none⟩ M
    | none => .stuck
def mRev (m : EM) : IM := fun G M => (m G M).bind fun a M1 => gRev a M1
section
variable {X : Cx} {W : WX} {tg a b e : Expr} {n : AM} {m : EM} {p pos tpos : Pos} {elts : List Expr} {kk : Nat}
theorem i_rev (hg : Gl X "reversed") (hm : X.mg "reversed" = none) (he : PE X e (tE (cm X) W m)) (hs : starEach [e] X.env = (false, eval e X.env) :: starEach [] X.env := by rfl) : PI X tg (.Call (.Name "reversed" p) [e] [] pos) (tI (cm X) W (mRev m)) :=
  PI.imp (RT.pi_revA hg hm he hs) fun σ H R hw => by
    have h1 := tI.bind (R := RV (cm X)) (m := m) (f := fun G a M1 => gRev a M1) hw
    refine tM.imp h1 fun v H1 ⟨j, G, a1, M, s, r, rr, q⟩ => ?_
    have q : postI (cm X) j H1 (gRev a1 M) R (fun c d H' => W c d σ H') := q
    unfold gRev at q
    cases e1 : lvA a1 with
    | some xs =>
      simp only [e1] at q
      obtain ⟨p1, us, rfl, g1, g2⟩ := lvA_at (C := cm X) rr e1
      exact ⟨p1, us, rfl, .inl ⟨g1 j H1 Ext.refl, q _ j H1 Ext.refl s (it_rev g1 g2)⟩⟩
    | none =>
      simp only [e1] at q
      cases e2 : tvA a1 with
      | none => simp only [e2] at q; exact q.elim
      | some xs =>
        simp only [e2] at q
        obtain ⟨p1, us, rfl, g1, g2⟩ := tvA_at (C := cm X) rr e2
        exact ⟨p1, us, rfl, .inr ⟨g1 j H1 Ext.refl, q _ j H1 Ext.refl s (it_revT g1 g2)⟩⟩
end
def mPar (i j : Nat) (n : AM) : SM := fun G M => (n G M).st G fun as M1 => match as with
  | [a, b] => .next ((G.set i (some a)).set j (some b)) M1
  | _ => .stuck
def mPar3 (i j k : Nat) (n : AM) : SM := fun G M => (n G M).st G fun as M1 => match as with
  | [a, b, c] => .next (((G.set i (some a)).set j (some b)).set k (some c)) M1
  | _ => .stuck
section
variable {X : Cx} {W : WX} {i j k : Nat} {x y z : Str} {a b c : Expr} {n : AM} {px py pz pt pos : Pos} {kt : Nat} {k2 : Nat} {pt2 : Pos}
theorem s_par (h : ∀ {ta : TA}, PA X [a, b] ta → PS X (.Assign [.Tuple [.Name x px, .Name y py] kt pt] (.Tuple [a, b] k2 pt2) pos) (tPar i j ta)) (ha : PA X [a, b] (tA (cm X) W n)) :
    PS X (.Assign [.Tuple [.Name x px, .Name y py] kt pt] (.Tuple [a, b] k2 pt2) pos) (tS (cm X) W (mPar i j n)) := PS.imp (h ha) fun D σ H h => by
  have h1 := tS.st (R := RVs (cm X)) (m := n) (f := fun G as M1 => match as with | [a, b] => SR.next ((G.set i (some a)).set j (some b)) M1 | _ => .stuck) h
  refine tM.imp h1 fun vs H1 ⟨j', G, as, M, s, r, rr, p⟩ => ?_
  match as, rr, p with
  | [], _, p => exact False.elim p
  | [_], _, p => exact False.elim p
  | _ :: _ :: _ :: _, _, p => exact False.elim p
  | [a1, a2], .cons r1 (.cons r2 .nil), p => exact ⟨_, _, rfl, p _ j' H1 Ext.refl s ((r.set r1).set r2)⟩
end
end Mx

namespace Mx
open PySem hiding Env
open L2 PySem.Spec
def selM (me : EM) (G : Env) (M : AH) : Option Nat := match me G M with
  | .ok (.ref n) _ => match M.objs[n]? with
    | some (.dK _) => if n ∈ M.fz then none else some n
    | some (.dT _) => if n ∈ M.fz then none else some n
    | _ => none
  | _ => none
def lk (M : AH) (n : Nat) : AH := ⟨M.objs, n :: M.fz⟩
def keysOf (M : AH) : AV → Option (List AV)
  | .ref n => if n ∈ M.fz then (match M.objs[n]? with
    | some (.dK kvs) => some (keysK kvs)
    | some (.dT kvs) => some (keysT kvs)
    | _ => none) else none
  | _ => none
def mKeys (m : EM) : IM := fun G M => (m G M).bind fun a M1 => match keysOf M1 a with
  | some xs => .ok ⟨xs, none⟩ M1
  | none => .stuck
theorem VRt.at {K : PySem.W.Frag} {i : Ix} {H : Hp} : ∀ {us : List (List Key × V)} {as : List (List Key × AV)} {k : Nat} {p : List Key × AV}, VRt K i H us as → as[k]? = some p → ∃ v, us[k]? = some (p.1, v)
  | _, _, 0, _, .cons r _, e => by cases e; exact ⟨_, rfl⟩
  | _, _, k + 1, _, .cons _ t, e => VRt.at (k := k) t e
theorem VRk.at {K : PySem.W.Frag} {i : Ix} {H : Hp} : ∀ {us : List (Key × V)} {as : List (Key × AV)} {k : Nat} {p : Key × AV}, VRk K i H us as → as[k]? = some p → ∃ v, us[k]? = some (p.1, v)
  | _, _, 0, _, .cons r _, e => by cases e; exact ⟨_, rfl⟩
  | _, _, k + 1, _, .cons _ t, e => VRk.at (k := k) t e
def repA (xs : List AV) (k : Int) : List AV := (List.replicate k.toNat xs).flatten
def gRep : AV → AV → AH → Res AV := fun a b M => match lstX M a, b with
  | some xs, .int k => if -(2 ^ 63) ≤ k ∧ k < 2 ^ 63 ∧ xs.length * k.toNat ≤ 16777216 then .ok (.lst (repA xs k)) M else .stuck
  | _, _ => .stuck
theorem vrs_rep {K : PySem.W.Frag} {i : Ix} {H : Hp} {us : List V} {as : List AV} (h : VRs K i H us as) : ∀ n : Nat, VRs K i H (List.replicate n us).flatten (List.replicate n as).flatten
  | 0 => .nil
  | n + 1 => by
    rw [List.replicate_succ, List.replicate_succ, List.flatten_cons, List.flatten_cons]
    exact VRs.app (vrs_rep h n) h
theorem o_rep {C : Cm} : Op2 C rRep gRep := fun i M H x y a b Q W s ra rb p => by
  unfold gRep at p
  cases e : lstX M a with
  | none => simp only [e] at p; exact False.elim p
  | some xs =>
    cases b with
    | int k =>
      simp only [e] at p
      cases rb
      by_cases hk : -(2 ^ 63) ≤ k ∧ k < 2 ^ 63 ∧ xs.length * k.toNat ≤ 16777216
      · rw [if_pos hk] at p
        obtain ⟨q, us, rfl, h1, h2⟩ := lstX_at s ra e
        have hl : sizeLine = 16777216 := sizeLine_eq
        refine ⟨q, k, us, rfl, rfl, h1, hk.1, hk.2.1, by rw [h2.len, hl]; exact hk.2.2, fun l hn => ?_⟩
        exact p _ i _ (Ext.fresh hn) (s.fresh hn) (.lst upd_same (s.notin hn) ((vrs_rep h2 k.toNat).mono (Ext.fresh hn)))
      · rw [if_neg hk] at p
        exact False.elim p
    | _ => simp only [e] at p; exact False.elim p
end Mx


namespace Mx
open PySem hiding Env
open L2 PySem.Spec PyProof.Rows
def IteT (K : PySem.W.Frag) (a : Addr) : It where
  go := fun i H => ∃ (ys : List V) (y : V), SqT K H a ys ∧ ys[i]? = some y
  yld := fun i H v H' => ∃ (T : Addr) (y : V), v = .ref T ∧ H T = none ∧ H' = upd H T (.tup [.int (i : Nat), y]) ∧ ∀ ys, SqT K H a ys → ys[i]? = some y
  stop := fun i H => ∃ ys : List V, SqT K H a ys ∧ ys.length ≤ i
theorem draws_tup {P : Program} {w : World} {A : Around} {it l : Addr} {vs : Array Value} (hh : A.handled = none) (hne : l ≠ it) : Draws P w A it [it, l] vs.size (fun i x => vs[i]? = some x) (fun i h => h.IsTupleIter it l i ∧ h.IsTuple l vs) where
  live := fun i h st => let ⟨⟨o, e, _⟩, _⟩ := st; ⟨o, e⟩
  frame := fun i h h' st k => ⟨st.1.at fun o e => k it (by simp) o e, let ⟨o, e, r⟩ := st.2; ⟨o, k l (by simp) o e, r⟩⟩
  item := fun i s Q E hi st q => RZ.nextOf_tuple_item st.1 st.2 (Array.getElem?_eq_getElem hi) fun h' h1 sb => q _ h' s.toks (Array.getElem?_eq_getElem hi) ⟨h1, let ⟨o, e, r⟩ := st.2; ⟨o, (sb.2 l hne).trans e, r⟩⟩ sb
  done := fun s Q E st q => RZ.nextOf_tuple_end hh st.1 st.2 (Array.getElem?_eq_none (Nat.le_refl _)) q
theorem turn_enumT {P : Program} {w : World} {K : PySem.W.Frag} {elts : List Expr} {kk : Nat} {tpos : Pos} (a e it : Addr) :
    Turn P w K (.Tuple elts kk tpos) (IteT K a) [e, it] e (fun i h => (∃ old, IsEnum h e it ((i : Nat) : Int) old) ∧ h.IsTupleIter it a i ∧ e ≠ it) where
  mem := List.mem_cons_self
  obj := fun i h st b hb => by
    obtain ⟨⟨old, he⟩, ⟨o, ho, _, hd⟩, _⟩ := st
    rcases List.mem_cons.mp hb with z | z
    · rw [z]; exact ⟨_, he, fun v q => Data.noConfusion q⟩
    · rw [List.mem_singleton.mp z]
      exact ⟨o, ho, fun v q => Data.noConfusion (hd.symm.trans q)⟩
  keep := fun i h h' st k => ⟨⟨_, k e (by simp) _ st.1.choose_spec⟩, st.2.1.at fun o q => k it (by simp) o q, st.2.2⟩
  item := by
    intro X hP hw hK hc i pins s σ H E I hf st hg
    subst hP hw hK
    obtain ⟨⟨old, he⟩, hit, hne⟩ := st
    obtain ⟨ys, y, hq, hy⟩ := hg
    obtain ⟨its, rv, p, _⟩ := I.tuple hq
    obtain ⟨u, hu, ru⟩ := rv.get hy
    have l1 : e < s.heap.objs.size := Heap.lt_size he
    have l2 : it < s.heap.objs.size := by obtain ⟨_, q, _⟩ := hit; exact Heap.lt_size q
    have nai : a ≠ it := fun z => by
      obtain ⟨o, e1, c1, _⟩ := hit
      obtain ⟨o2, e2, c2, _⟩ := p
      rw [z, e1] at e2
      cases e2
      rw [c1] at c2
      exact absurd c2 (by decide)
    have nae : e ≠ a := fun z => by
      obtain ⟨o2, e2, c2, _⟩ := p
      rw [← z, he] at e2
      cases e2
      exact absurd (show Value.type "enumerate" = Value.type "tuple" from c2) (by decide)
    have hlt : i < its.toArray.size := by
      have := (List.getElem?_eq_some_iff.mp hu).1
      simpa using this
    have D : Draws X.prog X.w X.A.in1 it [it, a] its.toArray.size (fun i x => its.toArray[i]? = some x) (fun i h => h.IsTupleIter it a i ∧ h.IsTuple a its.toArray) := draws_tup (show X.A.in1.handled = none from I.ok.hd hc) nai
    refine wpAny_pyNext_enum_itemD D he ⟨hit, p⟩ hlt hne (by simp [hne, nae]) fun x h' tk hP ho hs' hT hsz hk => ?_
    have ex : x = u := by
      have q : its.toArray[i]? = some u := by simpa using hu
      exact Option.some.inj (hP.symm.trans q)
    subst ex
    refine ⟨_, rfl, wpAny_letOwnedTupleGo_enum (s := { s with heap := h', toks := tk + 1 }) ho fun h2 he2 sb => ?_⟩
    have T2 : h2.get? s.heap.objs.size = some { cls := .type "tuple", data := .seq #[.int i tk, x] } := (sb.2 _ (Nat.ne_of_gt l1)).trans hT
    have new : ObjOk X.prog X.w (upd H s.heap.objs.size (.tup [.int (i : Nat), y])) h2 s.heap.objs.size (.tup [.int (i : Nat), y]) := ⟨by show 2 ≤ sizeLine; decide, [.int i tk, x], .cons ⟨_, rfl⟩ (.cons ru .nil), _, T2, rfl, _, rfl⟩
    have I1 : Inv X pins σ (upd H s.heap.objs.size (.tup [.int (i : Nat), y])) { s with heap := h2, toks := tk + 1 } :=
      I.turnedNew (ch := [e, it]) (fun b ob hb q => (sb.2 b (fun z => hb (by simp [z]))).trans (hk b ob (fun z => hb (by simp [z])) (fun z => hb (by simp [z])) q)) hf (Nat.le_refl _) new
    refine ⟨.ref s.heap.objs.size, _, I1, rfl, ⟨_, y, rfl, I.hok.fresh (Nat.le_refl _), rfl, fun zs hz => by rw [I.tuple_inj hz hq]; exact hy⟩, ⟨⟨x, ?_⟩, hs'.1.at fun o q => (sb.2 it (Ne.symm hne)).trans q, hne⟩, fun b hb => ?_⟩
    · have e1 : ((i + 1 : Nat) : Int) = (i : Int) + 1 := by omega
      exact e1 ▸ he2
    · have hb' : b ≠ s.heap.objs.size := by
        rcases List.mem_cons.mp hb with z | z
        · rw [z]; exact Nat.ne_of_lt l1
        · rw [List.mem_singleton.mp z]; exact Nat.ne_of_lt l2
      rw [upd_ne hb']
      exact (hf b hb).1
  done := by
    intro X hP hw hK hc i pins s σ H E I hf st hg
    subst hP hw hK
    obtain ⟨⟨old, he⟩, hit, hne⟩ := st
    obtain ⟨ys, hq, hx⟩ := hg
    obtain ⟨its, rv, p, _⟩ := I.tuple hq
    obtain ⟨f0, f1, f2, f3, f4, f5⟩ := hf it (by simp)
    have hl := rv.length
    have hT : s.TypeIs (.ref e) "enumerate" := ⟨_, he, rfl⟩
    unfold pyNext
    refine wpAny_bind (wpAny_attempt (wpAny_callSpecial?_slot (name := Str.ofString "__next__") hT PySem.F.slot_enumerate_next (wpAny_call_entry PySem.F.slot_enumerate_next hT PySem.F.entry_enumerate_next ?_ (PySem.F.args_enumerate_next_1 _))))
    show wpAny _ _ (field (.ref e) 2 >>= _) _ _ _
    refine wpAny_bind (wpAny_field he rfl (x := .ref it) rfl (wpAny_bind (RZ.nextOf_tuple_end (show X.A.in1.handled = none from I.ok.hd hc) hit p (by simp; omega) fun h' x eb hx' => ?_)))
    obtain ⟨o, ho, hc'⟩ := hx'
    refine wpAny_bind (wpAny_isInstance (T := "StopIteration") (b := true) ⟨o, ho, hc'⟩ isSubtype_stop (wpAny_pure ?_))
    exact ⟨rfl, I.turned (t' := s.toks) (fun b o hb q => eb b o hb q) f0 f1 f3 f4 f5⟩
  self := fun A i s Q E st h => wpAny_pyIter_enum st.1.choose_spec h
theorem meets_enumT (l : Addr) (vs : Array Value) (n : Nat) (dc : Option Addr) (sl : Array (Option Value)) :
    Meets (Builtin.«enumerate.__new__» ⟨[.type "enumerate", .ref l], []⟩) fun _ R s => s.heap.get? l = some { cls := .type "tuple", dict := dc, data := .seq vs n, slots := sl } ∧
      R (.ok (.ret (.ref (s.heap.push { cls := .type "tuple_iterator", data := .fields #[.ref l, .int 0 0] }).objs.size)))
        { s with heap := (s.heap.push { cls := .type "tuple_iterator", data := .fields #[.ref l, .int 0 0] }).push { cls := .type "enumerate", data := .fields #[.none, .bool false, .ref s.heap.objs.size, rawInt 0, .none, .none] } } :=
  .of_wp fun prog w A R s hs => by
    obtain ⟨hp, gg, dr, tk, os⟩ := s
    obtain ⟨e0, hr⟩ := hs
    have hsub := sub_enumerate
    have hL : Heap.IsTuple (Shared.heap ⟨hp, gg, dr, tk, os⟩) l vs := ⟨_, e0, rfl, n, rfl⟩
    wp_walk using AutoSeq1.wpAny_loadPart' e0
    refine wpAny_stack_any fun st => wpAny_pure ?_
    split
    · rename_i c _ _ _ _ _
      cases (c == Value.type "enumerate")
      · wp_walk using AutoSeq1.wpAny_loadPart' e0, wpAny_pyIter_tuple hL
        exact ⟨_, rfl, hr⟩
      · wp_walk using AutoSeq1.wpAny_loadPart' e0, wpAny_pyIter_tuple hL
        exact ⟨_, rfl, hr⟩
    · wp_walk using AutoSeq1.wpAny_loadPart' e0, wpAny_pyIter_tuple hL
      exact ⟨_, rfl, hr⟩
theorem call_enumT {prog : Program} {w : World} {A : Around} {E : Value → Shared → Prop} {s : Shared} {l : Addr} {vs : Array Value} {Q : Value → Shared → Prop} (hL : s.heap.IsTuple l vs)
    (q : ∀ h', IsEnum h' (s.heap.objs.size + 1) s.heap.objs.size 0 .none → h'.IsTupleIter s.heap.objs.size l 0 → (∀ b o, s.heap.get? b = some o → h'.get? b = some o) → Q (.ref (s.heap.objs.size + 1)) { s with heap := h' }) :
    wpAny (model prog w) A (call (.type "enumerate") [.ref l]) Q E s := by
  obtain ⟨⟨cc, dct, dt, sl⟩, e0, hc, n, hd⟩ := hL
  have hc : cc = .type "tuple" := hc
  have hd : dt = .seq vs n := hd
  subst hc hd
  refine callType_new PySem.F.called_enumerate (by decide) (PySem.F.typeCall_enumerate_1 _) (PySem.F.newCall_enumerate_1 _) (fun obj => PySem.F.args_object_init_2 obj _) PySem.F.entry_enumerate_new (meets_enumT l vs n dct sl) ⟨e0, ?_⟩
  have hz : (s.heap.push { cls := .type "tuple_iterator", data := .fields #[.ref l, .int 0 0] }).objs.size = s.heap.objs.size + 1 := Heap.size_push ..
  show _ ∧ _
  have he := Heap.get?_push_size (s.heap.push { cls := .type "tuple_iterator", data := .fields #[.ref l, .int 0 0] }) (o := { cls := .type "enumerate", data := .fields #[.none, .bool false, .ref s.heap.objs.size, rawInt 0, .none, .none] }) rfl
  rw [hz] at he ⊢
  exact ⟨⟨_, he, rfl⟩, q _ he ⟨_, Heap.get?_push_of_some _ (Heap.get?_push_size _ rfl), rfl, rfl⟩ fun b o x => Heap.get?_push_of_some _ (Heap.get?_push_of_some _ x)⟩
theorem pi_enumT {X : Cx} {e : Expr} {ta : TA} {p pos tpos : Pos} {elts : List Expr} {kk : Nat} (hg : Gl X "enumerate") (hm : X.mg "enumerate" = none) (ha : PA X [e] ta) (hs : starEach [e] X.env = [(false, eval e X.env)] := by rfl) :
    PI X (.Tuple elts kk tpos) (.Call (.Name "enumerate" p) [e] [] pos) (fun σ H R => ta σ H fun vs H1 => ∃ a xs, vs = [.ref a] ∧ SqT X.K H1 a xs ∧ R (IteT X.K a) H1) := by
  refine ⟨fun pins s σ H R I h => Call_ (ld_blt I hg hm boot_enumerate (callWith_type1 (thn (ha.run pos pins s σ H _ I h) fun us s1 ⟨vs, H1, I1, r1, a, xs, ex, hq, q⟩ => ?_) hs rfl))⟩
  subst ex
  obtain rfl := Vals.ref1 r1
  obtain ⟨its, rv, p', _⟩ := I1.tuple hq
  refine call_enumT (show s1.heap.IsTuple a its.toArray from p') fun h' he hit hk => wpAny_pyIter_enum he ?_
  have I2 : Inv X pins σ H1 { s1 with heap := h' } := I1.kept (t' := s1.toks) hk
  refine ⟨s1.heap.objs.size + 1, [s1.heap.objs.size + 1, s1.heap.objs.size], _, _, H1, rfl, I2, turn_enumT a (s1.heap.objs.size + 1) s1.heap.objs.size, ⟨⟨.none, he⟩, hit, Nat.succ_ne_self _⟩, fun b hb => ?_, q⟩
  have hle : s1.heap.objs.size ≤ b := by
    rcases List.mem_cons.mp hb with z | z
    · rw [z]; exact Nat.le_add_right _ _
    · rw [List.mem_singleton.mp z]; exact Nat.le_refl _
  exact I1.fpOk hle (I1.hok.fresh hle)
theorem it_enumT {C : Cm} {i : Ix} {H : Hp} {a : Addr} {us : List V} {as : List AV} (q : ∀ j H', Ext i j H H' → SqT C.K H' a us) (r : VRs C.K i H us as) : ItOk C i H (IteT C.K a) ⟨enumA as, none⟩ where
  go := fun k j M H' e _ _ hk => by
    have hk : k < as.length := by simpa [enumA] using hk
    have h1 : k < us.length := by rw [r.len]; exact hk
    exact ⟨us, us[k], q j H' e, List.getElem?_eq_getElem h1⟩
  yld := fun k j M H' x H2 a' e s _ ha y => by
    obtain ⟨T, u, e0, hT, e1, g1⟩ := y
    subst e0
    subst e1
    have ha : (enumA as)[k]? = some a' := ha
    unfold enumA at ha
    rw [List.getElem?_mapIdx] at ha
    cases hx : as[k]? with
    | none => rw [hx] at ha; cases ha
    | some x' =>
      rw [hx] at ha
      have ea : a' = .tup [.int (k : Nat), x'] := (Option.some.inj ha).symm
      subst ea
      obtain ⟨u', h1, h2⟩ := r.at hx
      have z1 := g1 us (q j _ e)
      rw [h1] at z1
      cases z1
      exact pair_new hT s (.int _) (h2.mono e)
  stop := fun k j M H' e _ _ hk => by
    have hk : as.length ≤ k := by simpa [enumA] using hk
    exact ⟨us, q j H' e, by rw [r.len]; exact hk⟩
def gEnumT (as : List AV) (M : AH) : Res Src := match as with
  | [a] => match tvA a with
    | some xs => .ok ⟨enumA xs, none⟩ M
    | _ => .stuck
  | _ => .stuck
def mEnumT (n : AM) : IM := fun G M => (n G M).bind fun as M1 => gEnumT as M1
section
variable {X : Cx} {W : WX} {tg a b e : Expr} {n : AM} {m : EM} {p pos tpos : Pos} {elts : List Expr} {kk : Nat}
theorem i_enumT (hg : Gl X "enumerate") (hm : X.mg "enumerate" = none) (ha : PA X [a] (tA (cm X) W n)) (hs : starEach [a] X.env = [(false, eval a X.env)] := by rfl) :
    PI X (.Tuple elts kk tpos) (.Call (.Name "enumerate" p) [a] [] pos) (tI (cm X) W (mEnumT n)) :=
  PI.imp (pi_enumT hg hm ha hs) fun σ H R hw => by
    have h1 := tI.bind (R := RVs (cm X)) (m := n) (f := fun G as M1 => gEnumT as M1) hw
    refine tM.imp h1 fun vs H1 ⟨j, G, as, M, s, r, rr, q⟩ => ?_
    match as, rr, q with
    | [], _, q => exact q.elim
    | _ :: _ :: _, _, q => exact q.elim
    | [a1], .cons r1 .nil, q =>
        have q : postI (cm X) j H1 (gEnumT [a1] M) R (fun c d H' => W c d σ H') := q
        unfold gEnumT at q
        cases e1 : tvA a1 with
        | none => simp only [e1] at q; exact q.elim
        | some xs =>
          simp only [e1] at q
          obtain ⟨p1, us, rfl, g1, g2⟩ := tvA_at (C := cm X) r1 e1
          exact ⟨p1, us, rfl, g1 j H1 Ext.refl, q _ j H1 Ext.refl s (it_enumT g1 g2)⟩
end
end Mx

namespace Mx
open PySem hiding Env
open L2 PySem.Spec PyProof.Rows
theorem XR.mono {C : Cm} {i j : Ix} {H H' : Hp} {cls : Value} {d : Option Addr} {c : Str} {fs : List (Str × AV)} (e : Ext i j H H') (x : XR C i H cls d c fs) : XR C j H' cls d c fs := by
  obtain ⟨A, h1, h2, dx, us, h3, h4, h5, h6⟩ := x
  exact ⟨A, h1, h2, dx, us, h3, e.notin h4 (ne_no h5), e.same h4 h5, h6.mono e⟩
structure BInit (K : PySem.W.Frag) (B : Addr) : Prop where
  rd : ∃ mc, PySem.W.readsIn K B mc = true ∧ PySem.W.findCls K (.ref B) mc "__init__" = some (.val (.builtin "ValueError.__init__"))
  ga : PySem.W.specialIn K (.ref B) "__getattribute__" = some (some (.builtin "type.__getattribute__"))
section
variable {X : Cx} {e : Expr} {es : List Expr} {ta : TA} {x : Str} {p1 p2 pos : Pos} {B : Addr}
theorem pe_binit {pl : Sem Bool} (T : BInit X.K B) (hg : Gl X x) (hm : X.mg x = some (.ref B)) (ha : PA X (e :: es) ta)
    (hc : eval (.Call (.Attribute (.Name x p1) "__init__" p2) (e :: es) [] pos) X.env = (do
      let ov ← eval (.Name x p1) X.env
      standAt p2.atName
      let (g, fst) ← holding [ov] (getMethod ov "__init__" pl)
      callWith pos g fst (backTo pos (starEach (e :: es) X.env)) (backToKw pos (keywordEach [] X.env))) := by rfl)
    (he : starEach (e :: es) X.env = (false, eval e X.env) :: starEach es X.env := by rfl) (hpl : (backTo pos (starEach es X.env)).any (·.1) = false := by rfl) (hdb : (x == ("__debug__" : Str)) = false := by decide) :
    PE X (.Call (.Attribute (.Name x p1) "__init__" p2) (e :: es) [] pos) (tVeI X.K ta) := by
  refine ⟨fun pins s σ H Q I h => PySem.W.methodCall_KW (ld_glob I hg hm ?_ hdb) hc⟩
  obtain ⟨mc, r1, r2⟩ := T.rd
  refine PySem.W.method_cls I.kIn T.ga (PySem.W.cls_value I.kIn r1 r2 (by decide +kernel) ?_)
  show wpAny _ _ (callWith pos (Value.builtin "ValueError.__init__") [] (backTo pos (starEach (e :: es) X.env)) []) _ _ _
  refine callWith_method1 (thn (ha.run pos pins _ σ H _ (I.tok _) h) fun us s1 ⟨vs, H1, I1, rs, a, C, ws, ev, hl, T, ea, q⟩ => ?_) he hpl
  subst ev
  cases rs with
  | @cons _ u0 _ ur ra rr =>
    obtain rfl : u0 = Value.ref a := ra
    exact oinit_ok T I1 ea (by rw [← Paired.length rr, sizeLine_eq]; omega) fun s' J => ⟨.non, H1, J, rfl, q⟩
end
def kept (fs : List Str) (ys : List V) : List (Str × V) := (fs.zip ys).reverse
def spI (K : PySem.W.Frag) (fs : List Str) : Sp := fun vs H Q _ => ∃ (a C : Addr) (ys : List V), vs = .ref a :: ys ∧ ys.length = fs.length ∧ OexC K C ∧ (∀ f ∈ fs, PySem.W.findIn K (.ref C) f = some none) ∧ H a = some (exo a C none) ∧
  ∀ dx, H dx = none → dx ≠ a → Q .non (upd (upd H dx (exd dx (kept fs ys))) a (exo a C (some dx)))
theorem spI_len {K : PySem.W.Frag} {fs : List Str} {vs : List V} {H : Hp} {Q : VK} {E : XK} (h : spI K fs vs H Q E) : vs.length = fs.length + 1 := by
  obtain ⟨a, C, ys, e, hl, _⟩ := h
  rw [e]
  simp [hl]
structure Ec (K : PySem.W.Frag) (mg : Str → Option Value) (P : Program) (w : World) (base : Heap) (x : Str) (fs : List Str) (C : Addr) : Prop where
  gC : mg x = some (.ref C)
  ox : OexC K C
  no : ∀ f ∈ fs, PySem.W.findIn K (.ref C) f = some none
  ini : ∃ (fI : Addr) (fd : FuncData), PySem.W.findIn K (.ref C) "__init__" = some (some (.ref fI)) ∧ PySem.W.typeIn K (.ref fI) = some (.type "function") ∧ FnOk P w K mg base CX0 1 fI fd ("self" :: fs) (spI K fs) ∧ Binds K fd ("self" :: fs) []
def mRaise (c : Str) (fs : List Str) (n : AM) : SM := fun G M => (n G M).st G fun as M1 => if as.length = fs.length ∧ fs.length ≤ 10 then .exc c (fs.zip as).reverse G M1 else .stuck
theorem fr_kept {K : PySem.W.Frag} {i : Ix} {H : Hp} : ∀ {fs : List Str} {us : List V} {as : List AV} {u0 : List (Str × V)} {a0 : List (Str × AV)}, VRs K i H us as → FR K i H u0 a0 → FR K i H ((fs.zip us).reverse ++ u0) ((fs.zip as).reverse ++ a0)
  | [], _, _, _, _, _, h0 => by simpa using h0
  | f :: fs, _, _, _, _, .nil, h0 => by simpa using h0
  | f :: fs, _, _, u0, a0, .cons (v := v) (a := a) (vs := vs) (as := as) r t, h0 => by
    have h := fr_kept (fs := fs) t (.cons (f := f) r h0)
    simpa using h
theorem del_upd {H : Hp} {a d : Addr} {o o1 o2 o3 : HO} (ha : H a = none) (hd : d ≠ a) : upd (del (upd (upd (upd H a o1) d o2) a o3) a) d o = upd H d o := by
  funext b
  by_cases h1 : b = d
  · rw [h1, upd_same, upd_same]
  · rw [upd_ne h1, upd_ne h1]
    by_cases h2 : b = a
    · rw [h2, del_same, ha]
    · rw [del_ne h2, upd_ne h2, upd_ne h1, upd_ne h2]
section
variable {X : Cx} {W : WX} {e : Expr} {es : List Expr} {n : AM} {x : Str} {p pos pos' : Pos} {C : Addr} {fs : List Str} {k : Nat}
theorem s_raise (hc : X.calm = true) (T : At X W k) (hk : 2 ≤ k) (Z : Ec X.K X.mg X.prog X.w X.base x fs C) (hg : Gl X x) (ha : PA X (e :: es) (tA (cm X) W n))
    (hdb : (x == ("__debug__" : Str)) = false := by decide) (he : starEach (e :: es) X.env = (false, eval e X.env) :: starEach es X.env := by rfl) (hpl : (backTo pos (starEach es X.env)).any (·.1) = false := by rfl) :
    PS X (.Raise (some (.Call (.Name x p) (e :: es) [] pos)) none pos') (tS (cm X) W (mRaise x fs n)) := by
  obtain ⟨fI, fd, iC, tI, F1, hb⟩ := Z.ini
  refine PS.imp (ps_raise hc T.tk (pmk_oex (dvs := []) Z.ox iC tI F1 (T.room.mono hk) hb .nil pass0 hg Z.gC ha hdb he hpl)) fun D σ H h => ?_
  have h1 := tS.st (R := RVs (cm X)) (m := n) (f := fun G as M1 => if as.length = fs.length ∧ fs.length ≤ 10 then SR.exc x (fs.zip as).reverse G M1 else .stuck) h
  refine tM.imp h1 fun vs H1 ⟨j, G, as, M, s, r, rr, q⟩ => ?_
  by_cases hl : as.length = fs.length ∧ fs.length ≤ 10
  · rw [if_pos hl] at q
    refine ⟨by rw [rr.len]; omega, fun a hn => ?_⟩
    refine ⟨a, C, vs, by rw [List.append_nil], by rw [rr.len]; exact hl.1, Z.ox, Z.no, upd_same, fun dx hd ne => ⟨rfl, dx, kept fs vs, upd_same, by rw [upd_ne ne, upd_same], ?_, ?_⟩⟩
    · rw [upd_ne ne] at hd
      exact hd
    · rw [upd_ne ne] at hd
      rw [del_upd hn ne]
      have e1 : Ext j j H1 (upd H1 dx (.xd (kept fs vs))) := Ext.fresh hd
      refine q (.ref C) (some dx) σ j _ e1 (s.fresh hd) (r.mono e1) ⟨C, Z.gC, rfl, dx, kept fs vs, rfl, s.notin hd, upd_same, ?_⟩
      have h3 := fr_kept (fs := fs) (u0 := []) (a0 := []) (rr.mono e1) .nil
      rw [List.append_nil, List.append_nil] at h3
      exact h3
  · rw [if_neg hl] at q
    exact q.elim
end
end Mx

namespace Mx
open PySem hiding Env
open L2 PySem.Spec
open PyProof.Rows hiding St
theorem At.tr {X : Cx} {W W' : WX} {k : Nat} {pn : List (Addr × Obj)} {xe : Value → Shared → Prop} (T : At X W k) (tk : Takes (X.tr pn xe) W') (own : PassesOwn (model X.prog X.w) X.A X.env xe) : At (X.tr pn xe) W' k := ⟨T.room, T.gd, tk, own⟩
def tX {α β : Type} (C : Cm) (R : Ix → Hp → β → α → Prop) (q : Nat) (a : Addr) (cls : Value) (d : Option Addr) (m : Str → List (Str × AV) → Env → AH → Res α) : St → Hp → (β → Hp → Prop) → Prop := fun σ H Q =>
  σ[q]? = some (some (.ref a)) ∧ ∃ i G M c fs, Sim C.K C.tb i M H ∧ ER C.K i H σ G ∧ XR C i H cls d c fs ∧ post C R i H (m c fs G M) Q (fun _ _ _ => False)
abbrev xE (C : Cm) (q : Nat) (a : Addr) (cls : Value) (d : Option Addr) (m : Str → List (Str × AV) → EM) : TE := tX C (RV C) q a cls d m
abbrev xB (C : Cm) (q : Nat) (a : Addr) (cls : Value) (d : Option Addr) (m : Str → List (Str × AV) → BM) : TT := tX C RB q a cls d m
abbrev xA (C : Cm) (q : Nat) (a : Addr) (cls : Value) (d : Option Addr) (m : Str → List (Str × AV) → AM) : TA := tX C (RVs C) q a cls d m
section
variable {C : Cm} {q : Nat} {a : Addr} {cls : Value} {d : Option Addr}
theorem tX.imp {α β : Type} {R : Ix → Hp → β → α → Prop} {m : Str → List (Str × AV) → Env → AH → Res α} {σ : St} {H : Hp} {Q Q' : β → Hp → Prop} (h : tX C R q a cls d m σ H Q) (f : ∀ v H', Q v H' → Q' v H') : tX C R q a cls d m σ H Q' :=
  let ⟨e, i, G, M, c, fs, s, r, x, p⟩ := h
  ⟨e, i, G, M, c, fs, s, r, x, p.imp f fun _ _ _ z => z⟩
theorem tX.bind {α β γ δ : Type} {R : Ix → Hp → β → α → Prop} {R' : Ix → Hp → δ → γ → Prop} {m : Str → List (Str × AV) → Env → AH → Res α} {f : Str → List (Str × AV) → Env → α → AH → Res γ} {σ : St} {H : Hp} {Q : δ → Hp → Prop}
    (h : tX C R' q a cls d (fun c fs G M => (m c fs G M).bind (f c fs G)) σ H Q) :
    tX C R q a cls d m σ H (fun v H1 => σ[q]? = some (some (.ref a)) ∧ ∃ j G b M c fs, Sim C.K C.tb j M H1 ∧ ER C.K j H1 σ G ∧ XR C j H1 cls d c fs ∧ R j H1 v b ∧ post C R' j H1 (f c fs G b M) Q (fun _ _ _ => False)) := by
  obtain ⟨e, i, G, M, c, fs, s, r, x, p⟩ := h
  refine ⟨e, i, G, M, c, fs, s, r, x, (post.bind (R := R) p).imp (fun v H1 ⟨j, b, M', e1, s1, rr, p'⟩ => ?_) fun _ _ _ z => z⟩
  exact ⟨e, j, G, b, M', c, fs, s1, r.mono e1, x.mono e1, rr, p'⟩
theorem tX.bl {m : Str → List (Str × AV) → EM} {σ : St} {H : Hp} {Q : Bool → Hp → Prop} (h : xB C q a cls d (fun c fs => mBl (m c fs)) σ H Q) : xE C q a cls d m σ H (fun x H' => ∃ k, x = .bl k ∧ Q k H') := by
  have h1 := tX.bind (R := RV C) (m := m) (f := fun c fs G b M1 => match b with | AV.bl b => Res.ok b M1 | _ => .stuck) h
  refine tX.imp h1 fun x H1 ⟨_, j, G, b, M, c, fs, s, r, xx, rr, p⟩ => ?_
  cases b with
  | bl b =>
    cases rr
    exact ⟨b, rfl, p.now s rfl⟩
  | _ => exact p.elim
end
section
variable {X : Cx} {q : Nat} {a : Addr} {cls : Value} {d : Option Addr} {pos : Pos} {e f g : Expr} {es : List Expr}
variable {m m1 m2 : Str → List (Str × AV) → EM} {n : Str → List (Str × AV) → AM} {t u : Str → List (Str × AV) → BM}
theorem x_lift {m : EM} (h : PE X e (tE (cm X) W0 m)) : PE X e (xE (cm X) q a cls d fun _ _ => m) := PE.imp h fun σ H Q ⟨_, i, G, M, c, fs, s, r, _, p⟩ => ⟨i, G, M, s, r, p⟩
theorem xt_lift {m : BM} (h : PT X e (tB' (cm X) W0 m)) : PT X e (xB (cm X) q a cls d fun _ _ => m) := PT.imp h fun σ H Q ⟨_, i, G, M, c, fs, s, r, _, p⟩ => ⟨i, G, M, s, r, p⟩
theorem xa_nil : PA X [] (xA (cm X) q a cls d fun _ _ => mNil) := PA.imp (a_nil (W := W0)) fun σ H Q ⟨_, i, G, M, c, fs, s, r, _, p⟩ => ⟨i, G, M, s, r, p⟩
theorem xa_cons (he : PE X e (xE (cm X) q a cls d m)) (hr : PA X es (xA (cm X) q a cls d n)) (hs : starEach (e :: es) X.env = (false, eval e X.env) :: starEach es X.env := by rfl) : PA X (e :: es) (xA (cm X) q a cls d fun c fs => mCons (m c fs) (n c fs)) :=
  PA.imp (pa_cons he hr hs) fun σ H Q h => by
    have h1 := tX.bind (R := RV (cm X)) (m := m) (f := fun c fs G b M1 => (n c fs G M1).bind fun as M2 => Res.ok (b :: as) M2) h
    refine tX.imp h1 fun x H1 ⟨e0, j, G, b, M, c, fs, s, r, xx, rr, p⟩ => ?_
    exact ⟨e0, j, G, M, c, fs, s, r, xx, (post.bind (R := RVs (cm X)) p).imp (fun xs H2 ⟨k, as, M2, e2, s2, rs, p2⟩ => p2.now s2 (.cons (rr.mono e2) rs)) fun _ _ _ z => z⟩
theorem x_tup {k : Nat} (h : PA X es (xA (cm X) q a cls d n)) : PE X (.Tuple es k pos) (xE (cm X) q a cls d fun c fs => mTup (n c fs)) := PE.imp (pe_tup h) fun σ H Q h => by
  have h1 := tX.bind (R := RVs (cm X)) (m := n) (f := fun c fs G as M1 => gTupD as M1) h
  exact tX.imp h1 fun xs H1 ⟨_, j, G, as, M, c, fs, s, r, xx, rr, p⟩ => c_tup j M H1 xs as Q _ s rr p
end
def spostX (C : Cm) (q : Nat) (a : Addr) (i : Ix) (H : Hp) (r : SR) (D : Ends) : Prop := match r with
  | .next G M => ∀ σ j H', Ext i j H H' → Sim C.K C.tb j M H' → ER C.K j H' σ G → σ[q]? = some (some (.ref a)) → D.nx σ H'
  | .ret b M => ∀ v j H', Ext i j H H' → Sim C.K C.tb j M H' → VR C.K j H' v b → D.rt v H'
  | _ => False
theorem spostX.ext {C : Cm} {q : Nat} {a : Addr} {i j : Ix} {H H' : Hp} {r : SR} {D : Ends} (e : Ext i j H H') (h : spostX C q a i H r D) : spostX C q a j H' r D := by
  cases r with
  | next G M => exact fun σ k H2 e2 => h σ k H2 (e.trans e2)
  | ret G M => exact fun σ k H2 e2 => h σ k H2 (e.trans e2)
  | brk G M => exact h
  | cnt G M => exact h
  | exc c fs G M => exact h
  | stuck => exact h
def xS (C : Cm) (q : Nat) (a : Addr) (cls : Value) (d : Option Addr) (m : Str → List (Str × AV) → SM) : TS := fun D σ H =>
  σ[q]? = some (some (.ref a)) ∧ ∃ i G M c fs, Sim C.K C.tb i M H ∧ ER C.K i H σ G ∧ XR C i H cls d c fs ∧ spostX C q a i H (m c fs G M) D
theorem xS.st {α β : Type} {C : Cm} {q : Nat} {a : Addr} {cls : Value} {d : Option Addr} {R : Ix → Hp → β → α → Prop} {m : Str → List (Str × AV) → Env → AH → Res α} {f : Str → List (Str × AV) → Env → α → AH → SR} {σ : St} {H : Hp} {D : Ends} (h : xS C q a cls d (fun c fs G M => (m c fs G M).st G (f c fs G)) D σ H) :
    tX C R q a cls d m σ H (fun v H1 => σ[q]? = some (some (.ref a)) ∧ ∃ j G b M c fs, Sim C.K C.tb j M H1 ∧ ER C.K j H1 σ G ∧ XR C j H1 cls d c fs ∧ R j H1 v b ∧ spostX C q a j H1 (f c fs G b M) D) := by
  obtain ⟨e, i, G, M, c, fs, s, r, x, p⟩ := h
  refine ⟨e, i, G, M, c, fs, s, r, x, ?_⟩
  have p : spostX C q a i H ((m c fs G M).st G (f c fs G)) D := p
  cases e0 : m c fs G M with
  | ok b M1 =>
    rw [e0] at p
    intro v j H' e1 s1 rr
    exact ⟨e, j, G, b, M1, c, fs, s1, r.mono e1, x.mono e1, rr, spostX.ext e1 p⟩
  | exc c' fs' M1 => rw [e0] at p; exact p.elim
  | stuck => rw [e0] at p; exact p
section
variable {X : Cx} {q : Nat} {a : Addr} {cls : Value} {d : Option Addr} {pos : Pos} {e : Expr} {st : Stmt} {rest orelse : List Stmt}
variable {m : Str → List (Str × AV) → EM} {t : Str → List (Str × AV) → BM} {n u : Str → List (Str × AV) → SM}
theorem xs_nil : PSs X [] (xS (cm X) q a cls d fun _ _ => mNext) := PSs.imp pss_nil fun D σ H ⟨e0, i, G, M, c, fs, s, r, x, p⟩ => p σ i H Ext.refl s r e0
theorem xs_cons (h1 : PS X st (xS (cm X) q a cls d n)) (h2 : PSs X rest (xS (cm X) q a cls d u)) : PSs X (st :: rest) (xS (cm X) q a cls d fun c fs => mThen (n c fs) (u c fs)) := PSs.imp (pss_cons h1 h2) fun D σ H ⟨e0, i, G, M, c, fs, s, r, x, p⟩ => by
  refine ⟨e0, i, G, M, c, fs, s, r, x, ?_⟩
  have p : spostX (cm X) q a i H ((n c fs G M).seq (u c fs)) D := p
  cases e1 : n c fs G M with
  | next G1 M1 =>
    rw [e1] at p
    exact fun σ' j H' ee s1 r1 q1 => ⟨q1, j, G1, M1, c, fs, s1, r1, x.mono ee, spostX.ext ee p⟩
  | ret b M1 => rw [e1] at p; exact p
  | brk G1 M1 => rw [e1] at p; exact p
  | cnt G1 M1 => rw [e1] at p; exact p
  | exc c' fs' G1 M1 => rw [e1] at p; exact p
  | stuck => rw [e1] at p; exact p
theorem xs_one (h1 : PS X st (xS (cm X) q a cls d n)) : PSs X [st] (xS (cm X) q a cls d n) := PSs.imp (pss_one h1) fun D σ H h => h
theorem x_set {k : Nat} {st : Stmt} (hk : k ≠ q) (h : ∀ {te : TE}, PE X e te → PS X st (tAsg te (gName k))) (he : PE X e (xE (cm X) q a cls d m)) : PS X st (xS (cm X) q a cls d fun c fs => mSet k (m c fs)) := PS.imp (h he) fun D σ H hh => by
  have h1 := xS.st (R := RV (cm X)) (m := m) (f := fun c fs G b M1 => SR.next (G.set k (some b)) M1) hh
  refine tX.imp h1 fun v H1 ⟨e0, j, G, b, M, c, fs, s, r, x, rr, p⟩ => ?_
  exact p _ j H1 Ext.refl s (r.set rr) (by rw [List.getElem?_set_ne hk]; exact e0)
end
end Mx

namespace Mx
open PySem hiding Env
open L2 PySem.Spec
open PyProof.Rows hiding St
theorem FR.look {K : PySem.W.Frag} {i : Ix} {H : Hp} {f : Str} {b : AV} : ∀ {us : List (Str × V)} {fs : List (Str × AV)}, FR K i H us fs → fs.lookup f = some b → ∃ v, us.lookup f = some v ∧ VR K i H v b
  | _, _, .nil, h => by cases h
  | _, _, .cons (f := g) (us := us) (as := as) r t, h => by
    rw [List.lookup_cons] at h ⊢
    by_cases e : (f == g) = true
    · simp only [e] at h ⊢
      cases h
      exact ⟨_, rfl, r⟩
    · have e : (f == g) = false := by simpa using e
      simp only [e] at h ⊢
      exact FR.look t h
def mXf (cn f : Str) : Str → List (Str × AV) → EM := fun c fs _ M => if c = cn then (match fs.lookup f with
  | some b => .ok b M
  | none => .stuck) else .stuck
section
variable {X : Cx} {q : Nat} {a : Addr} {oe : Obj} {cls : Value} {d : Option Addr} {pn : List (Addr × Obj)} {n f cn : Str} {p pos : Pos} {C : Addr}
theorem x_field (T : XfC X.K C) (gC : X.mg cn = some (.ref C)) (hno : PySem.W.findIn X.K (.ref C) f = some none) (hz : Zc cls d oe) (hf : ∃ vs, oe.data = .fields vs) (he : PE (X.suite a ((a, oe) :: pn)) (.Name n p) (tVar q))
    (hb : attributeBase (.Name n p) f X.env (eval (.Name n p) X.env) = eval (.Name n p) X.env := by rfl) : PE (X.suite a ((a, oe) :: pn)) (.Attribute (.Name n p) f pos) (xE (cm X) q a cls d (mXf cn f)) :=
  PE.imp (pe_xf T hno hz hf he hb) fun σ H Q ⟨e0, i, G, M, c, fs, s, r, ⟨A, x1, x2, dx, us, x3, x4, x5, x6⟩, h⟩ => by
    unfold mXf at h
    by_cases hc : c = cn
    · subst hc
      rw [if_pos rfl] at h
      have eA : A = C := by
        have e : some (Value.ref A) = some (.ref C) := x1.symm.trans gC
        cases e
        rfl
      subst eA
      cases hl : fs.lookup f with
      | none => rw [hl] at h; exact h.elim
      | some b =>
        rw [hl] at h
        obtain ⟨v, h1, h2⟩ := x6.look hl
        exact ⟨_, e0, rfl, x2, dx, us, v, x3, x5, h1, h.now s h2⟩
    · rw [if_neg hc] at h
      exact h.elim
end
def ExH (H : Hp) (d : Option Addr) : Prop := ∃ dx us, d = some dx ∧ H dx = some (.xd us)
theorem kit_exc {X : Cx} {pins : List (Addr × Obj)} {σ : L2.St} {H : Hp} {s : Shared} {a D : Addr} {oe : Obj} {d : Option Addr} {pn : List (Addr × Obj)} (E : ExcC X.K D) (hz : Zc (.ref D) d oe) (hf : ∃ vs, oe.data = .fields vs) (I : Inv (X.suite a ((a, oe) :: pn)) pins σ H s) (hx : ExH H d) :
    ∃ P : Heap → Prop, PySem.W.KitX X.K (.ref a) (.ref D) P ∧ P s.heap := by
  obtain ⟨dx, us, rfl, e⟩ := hx
  obtain ⟨ha, _⟩ := I.pin (a, oe) (List.mem_append_left _ List.mem_cons_self)
  obtain ⟨vs, hd⟩ := hf
  have x : ObjOk X.prog X.w H s.heap dx (.xd us) := I.hok dx _ e
  obtain ⟨mA, hns, _⟩ := x
  obtain ⟨od, ho, _⟩ := lookIn_ns hns
  have hcl : (PySem.W.clsIn X.K D).isSome = true := by
    obtain ⟨cd, hc, _⟩ := PySem.W.any_some E.hd
    rw [hc]
    rfl
  exact ⟨_, PySem.W.kitx_exc hcl E.hg E.hk E.hs E.ha E.hn E.ht E.hm, (⟨ha, hz.1, by unfold PySem.W.notCls; rw [hd] <;> rfl, by rw [hz.2]; exact ho⟩ : PySem.W.InstAt s.heap a oe D (some od))⟩
def rIsX (K : PySem.W.Frag) (a : Addr) (cls : Value) (d : Option Addr) : List V → Hp → VK → Prop := fun xs H Q => ExH H d ∧ ∃ D, cls = .ref D ∧ ExcC K D ∧
  ((∃ (c : V) (cv : Value) (b : Bool), xs = [.ref a, c] ∧ (∀ u, RelV c u → u = cv) ∧ PySem.W.kitOne K (.ref D) cv = some b ∧ Q (.bl b) H) ∨
    ∃ (t : Addr) (cs : List Addr) (b : Bool), xs = [.ref a, .ref t] ∧ H t = some (.tup (cs.map V.ref)) ∧ PySem.W.kitAny K (.ref D) (cs.map Value.ref) = some b ∧ Q (.bl b) H)
theorem vals_refs : ∀ {cs : List Addr} {us : List Value}, Vals (cs.map V.ref) us → us = cs.map Value.ref
  | [], us, h => by cases h; rfl
  | c :: cs, us, h => by
    cases h with
    | cons r t =>
      rw [vals_refs t]
      cases r
      rfl
theorem call_isX {X : Cx} {a : Addr} {oe : Obj} {cls : Value} {d : Option Addr} {pn : List (Addr × Obj)} (hz : Zc cls d oe) (hf : ∃ vs, oe.data = .fields vs) : CallR (X.suite a ((a, oe) :: pn)) (.builtin "isinstance") (rIsX X.K a cls d) := by
  intro pins s σ H xs us Q I r h
  obtain ⟨hx, D, rfl, E, h⟩ := h
  obtain ⟨P, kx, hp⟩ := kit_exc E hz hf I hx
  rcases h with ⟨c, cv, b, rfl, hcv, e, q⟩ | ⟨t, cs, b, rfl, ht, e, q⟩
  · cases r with
    | cons rx rr =>
      cases rr with
      | cons rt rr =>
        cases rr
        cases rx
        have ec := hcv _ rt
        subst ec
        exact PySem.W.kia_one kx I.kIn hp e (fun z => nomatch z) fun tk => ⟨.bl b, H, I.kept (t' := tk) fun _ _ z => z, rfl, q⟩
  · cases r with
    | cons rx rr =>
      cases rr with
      | cons rt rr =>
        cases rr
        cases rx
        cases rt
        obtain ⟨its, rv, ⟨⟨oc, od, oda, osl⟩, ho, hc, n, hd⟩, _⟩ := I.tuple (.inl (.inl ht))
        simp only at hc hd
        subst hc hd
        have ei := vals_refs rv
        subst ei
        exact PySem.W.kia_tup kx I.kIn hp ho e (fun z => nomatch z) fun tk => ⟨.bl b, H, I.kept (t' := tk) fun _ _ z => z, rfl, q⟩
def mXi (tab : List (Str × Bool)) : Str → List (Str × AV) → EM := fun c _ _ M => match tab.lookup c with
  | some b => .ok (.bl b) M
  | none => .stuck
theorem look_mem {tab : List (Str × Bool)} {c : Str} {b : Bool} (h : tab.lookup c = some b) : (c, b) ∈ tab := by
  induction tab with
  | nil => cases h
  | cons x r ih =>
    obtain ⟨k, v⟩ := x
    rw [List.lookup_cons] at h
    by_cases e : (c == k) = true
    · simp only [e] at h
      cases h
      have e2 : c = k := by simpa using e
      rw [e2]
      exact List.mem_cons_self
    · have e : (c == k) = false := by simpa using e
      simp only [e] at h
      exact List.mem_cons_of_mem _ (ih h)
theorem XR.h {C : Cm} {i : Ix} {H : Hp} {cls : Value} {d : Option Addr} {c : Str} {fs : List (Str × AV)} (x : XR C i H cls d c fs) : ExH H d := by
  obtain ⟨A, _, _, dx, us, h3, _, h5, _⟩ := x
  exact ⟨dx, us, h3, h5⟩
section
variable {X : Cx} {q : Nat} {a : Addr} {oe : Obj} {cls : Value} {d : Option Addr} {pn : List (Addr × Obj)} {n x : Str} {p p1 p2 pos : Pos} {tab : List (Str × Bool)}
theorem x_isi {cv : Value} {c : V} (hcv : ∀ u, RelV c u → u = cv) (htab : ∀ y ∈ tab, ∃ D, X.mg y.1 = some (.ref D) ∧ ExcC X.K D ∧ PySem.W.kitOne X.K (.ref D) cv = some y.2) (hz : Zc cls d oe) (hf : ∃ vs, oe.data = .fields vs) (he : PE (X.suite a ((a, oe) :: pn)) (.Name n p1) (tVar q))
    (hn : PE (X.suite a ((a, oe) :: pn)) (.Name x p2) (tC c)) (hg : Gl X "isinstance") (hm : X.mg "isinstance" = none)
    (h1 : starEach [.Name n p1, .Name x p2] X.env = (false, eval (.Name n p1) X.env) :: starEach [.Name x p2] X.env := by rfl) (h2 : starEach [.Name x p2] X.env = (false, eval (.Name x p2) X.env) :: starEach [] X.env := by rfl)
    (hpl : (backTo pos (starEach [.Name x p2] X.env)).any (·.1) = false := by rfl) (hv : bootBuiltins "isinstance" = some (.builtin "isinstance") := by kernel_rfl) :
    PE (X.suite a ((a, oe) :: pn)) (.Call (.Name "isinstance" p) [.Name n p1, .Name x p2] [] pos) (xE (cm X) q a cls d (mXi tab)) :=
  PE.imp (pe_callB (call_isX hz hf) hg hm hv (pa_cons he (pa_cons hn pa_nil h2) h1) (by decide) (by decide) h1 hpl) fun σ H Q ⟨e0, i, G, M, cc, fs, s, r, xr, h⟩ => by
    unfold mXi at h
    cases hl : tab.lookup cc with
    | none => rw [hl] at h; exact h.elim
    | some b =>
      rw [hl] at h
      obtain ⟨D, g1, g2, g3⟩ := htab _ (look_mem hl)
      obtain ⟨A, x1, x2, _⟩ := id xr
      have eA : A = D := by
        have e : some (Value.ref A) = some (.ref D) := x1.symm.trans g1
        cases e
        rfl
      subst eA
      exact ⟨_, e0, xr.h, A, x2, g2, .inl ⟨c, cv, b, rfl, hcv, g3, h.now s (.bl b)⟩⟩
structure ClsL (X : Cx) (es : List Expr) (cs : List Addr) : Prop where
  run : PA X es (fun σ H Q => Q (cs.map V.ref) H)
theorem cl_nil : ClsL X [] [] := ⟨pa_nil⟩
theorem cl_cons {e : Expr} {es : List Expr} {C : Addr} {cs : List Addr} (h : PE X e (tC (.ref C))) (t : ClsL X es cs) (hs : starEach (e :: es) X.env = (false, eval e X.env) :: starEach es X.env := by rfl) : ClsL X (e :: es) (C :: cs) := ⟨PA.imp (pa_cons h t.run hs) fun σ H Q q => q⟩
theorem x_isiT {es : List Expr} {cs : List Addr} {k : Nat} {pt : Pos} (htab : ∀ y ∈ tab, ∃ D, X.mg y.1 = some (.ref D) ∧ ExcC X.K D ∧ PySem.W.kitAny X.K (.ref D) (cs.map Value.ref) = some y.2) (hlen : cs.length ≤ 100) (hz : Zc cls d oe) (hf : ∃ vs, oe.data = .fields vs)
    (he : PE (X.suite a ((a, oe) :: pn)) (.Name n p1) (tVar q)) (hn : ClsL (X.suite a ((a, oe) :: pn)) es cs) (hg : Gl X "isinstance") (hm : X.mg "isinstance" = none)
    (h1 : starEach [.Name n p1, .Tuple es k pt] X.env = (false, eval (.Name n p1) X.env) :: starEach [.Tuple es k pt] X.env := by rfl) (h2 : starEach [.Tuple es k pt] X.env = (false, eval (.Tuple es k pt) X.env) :: starEach [] X.env := by rfl)
    (hpl : (backTo pos (starEach [.Tuple es k pt] X.env)).any (·.1) = false := by rfl) (hv : bootBuiltins "isinstance" = some (.builtin "isinstance") := by kernel_rfl) :
    PE (X.suite a ((a, oe) :: pn)) (.Call (.Name "isinstance" p) [.Name n p1, .Tuple es k pt] [] pos) (xE (cm X) q a cls d (mXi tab)) :=
  PE.imp (pe_callB (call_isX hz hf) hg hm hv (pa_cons he (pa_cons (pe_tup hn.run) pa_nil h2) h1) (by decide) (by decide) h1 hpl) fun σ H Q ⟨e0, i, G, M, cc, fs, s, r, xr, h⟩ => by
    unfold mXi at h
    cases hl : tab.lookup cc with
    | none => rw [hl] at h; exact h.elim
    | some b =>
      rw [hl] at h
      obtain ⟨D, g1, g2, g3⟩ := htab _ (look_mem hl)
      obtain ⟨A, x1, x2, _⟩ := id xr
      have eA : A = D := by
        have e : some (Value.ref A) = some (.ref D) := x1.symm.trans g1
        cases e
        rfl
      subst eA
      refine ⟨_, e0, by rw [List.length_map, sizeLine_eq]; omega, fun t ht => ?_⟩
      have e1 : Ext i i H (upd H t (.tup (cs.map V.ref))) := Ext.fresh ht
      exact ⟨(xr.mono e1).h, A, x2, g2, .inr ⟨t, cs, b, rfl, upd_same, g3, h _ i _ e1 (s.fresh ht) (.bl b)⟩⟩
end
theorem kit_of {K : PySem.W.Frag} {D C : Addr} {b : Bool} (hc : PySem.W.isClsIn K C = true) (ht : PySem.W.typeIn K (.ref C) = some (.type "type")) (hself : PySem.W.subIn K (.ref D) (.ref D) = some true) (hs : PySem.W.subIn K (.ref D) (.ref C) = some b) : PySem.W.kitOne K (.ref D) (.ref C) = some b := by
  unfold PySem.W.kitOne
  by_cases e : D = C
  · subst e
    rw [hself] at hs
    cases hs
    rw [if_pos (beq_self_eq_true _)]
  · rw [if_neg (by simpa using e)]
    have hc : (PySem.W.clsIn K C).isSome = true := hc
    show (if ((PySem.W.clsIn K C).isSome && PySem.W.typeIn K (.ref C) == some (.type "type")) = true then PySem.W.subIn K (.ref D) (.ref C) else none) = some b
    rw [if_pos (by rw [hc, ht]; rfl)]
    exact hs
theorem kit_ve {K : PySem.W.Frag} {D : Addr} {b : Bool} (hs : PySem.W.subIn K (.ref D) (.type "ValueError") = some b) : PySem.W.kitOne K (.ref D) (.type "ValueError") = some b := by
  unfold PySem.W.kitOne
  rw [if_neg (by intro z; cases (beq_iff_eq.mp z))]
  show (if PySem.W.kitMeta "ValueError" = true then PySem.W.subIn K (.ref D) (.type "ValueError") else none) = some b
  rw [if_pos (by decide +kernel)]
  exact hs
theorem kany_nil {K : PySem.W.Frag} {D : Addr} : PySem.W.kitAny K (.ref D) [] = some false := rfl
theorem kany_f {K : PySem.W.Frag} {D C : Addr} {cs : List Value} {b : Bool} (h : PySem.W.kitOne K (.ref D) (.ref C) = some false) (t : PySem.W.kitAny K (.ref D) cs = some b) : PySem.W.kitAny K (.ref D) (.ref C :: cs) = some b := by
  simp only [PySem.W.kitAny, h]
  exact t
theorem exm_of' {K : PySem.W.Frag} {D C : Addr} {b : Bool} (hc : PySem.W.isClsIn K C = true) (ht : PySem.W.typeIn K (.ref C) = some (.type "type")) (hb : PySem.W.subIn K (.ref C) (.type "BaseException") = some true) (hs : PySem.W.subIn K (.ref D) (.ref C) = some b) : PySem.W.exmOne K (.ref D) (.ref C) = some b := by
  have hc : (PySem.W.clsIn K C).isSome = true := hc
  unfold PySem.W.exmOne
  rw [if_pos (by rw [hb]; rfl)]
  show (if ((PySem.W.clsIn K C).isSome && PySem.W.typeIn K (.ref C) == some (.type "type")) = true then PySem.W.subIn K (.ref D) (.ref C) else none) = some b
  rw [if_pos (by rw [hc, ht]; rfl)]
  exact hs
end Mx


namespace Mx
open PySem hiding Env
open L2 PySem.Spec
open PyProof.Rows hiding St
def clsSt : Stmt → List Stmt
  | .ClassDef (body := b) .. => b
  | _ => []
abbrev iniS (st : Stmt) : Stmt := (clsSt st).getD 0 (.Pass ⟨0, 0, 0, 0⟩)
theorem upd_again {H : Hp} {d a : Addr} {o1 o2 u : HO} (h : d ≠ a) : upd (upd (upd H d o1) a u) d o2 = upd (upd H d o2) a u := by
  funext b
  by_cases h1 : b = d
  · rw [h1, upd_same, upd_ne h, upd_same]
  · rw [upd_ne h1]
    by_cases h2 : b = a
    · rw [h2, upd_same, upd_same]
    · rw [upd_ne h2, upd_ne h2, upd_ne h1, upd_ne h1]
theorem ini_end1 {K : PySem.W.Frag} {f : Str} {z : Str} {vs : List V} {H : Hp} {Q : VK} {E : XK} (h : spI K [f] vs H Q E) :
    tSeq (tDrop (tVeI K (tCons (tVar 0) (tCons (tC (.str z)) tNil)))) (tOst K f (tVar 0) (tVar 1)) { nx := fun _ H' => Q .non H', rt := Q } (L2.start ["self", f] vs) H := by
  obtain ⟨a, C, ys, rfl, hl, ox, no, ha, q⟩ := h
  match ys, hl with
  | [y], _ =>
    refine ⟨.ref a, rfl, a, C, [.str z], rfl, by simp, ox, ha, ?_⟩
    refine ⟨y, rfl, .ref a, rfl, a, C, rfl, ox, no f (by simp), .inl ⟨ha, fun dx hd ne => ?_⟩⟩
    exact q dx hd ne
theorem ini_end2 {K : PySem.W.Frag} {f g : Str} {z : Str} {vs : List V} {H : Hp} {Q : VK} {E : XK} (h : spI K [f, g] vs H Q E) :
    tSeq (tDrop (tVeI K (tCons (tVar 0) (tCons (tC (.str z)) tNil)))) (tSeq (tOst K f (tVar 0) (tVar 1)) (tOst K g (tVar 0) (tVar 2))) { nx := fun _ H' => Q .non H', rt := Q } (L2.start ["self", f, g] vs) H := by
  obtain ⟨a, C, ys, rfl, hl, ox, no, ha, q⟩ := h
  match ys, hl with
  | [y, z'], _ =>
    refine ⟨.ref a, rfl, a, C, [.str z], rfl, by simp, ox, ha, ?_⟩
    refine ⟨y, rfl, .ref a, rfl, a, C, rfl, ox, no f (by simp), .inl ⟨ha, fun dx hd ne => ?_⟩⟩
    refine ⟨z', rfl, .ref a, rfl, a, C, rfl, ox, no g (by simp), .inr ⟨dx, [(f, y)], upd_same, by rw [upd_ne ne, upd_same], by simp, ?_⟩⟩
    have e := q dx hd ne
    show Q .non (upd (upd (upd H dx (exd dx [(f, y)])) a (exo a C (some dx))) dx (exd dx [(g, z'), (f, y)]))
    rw [upd_again ne]
    exact e
structure EcT (K : PySem.W.Frag) (mg : Str → Option Value) (x : Str) (fs : List Str) (st : Stmt) (C fI : Addr) (fd : FuncData) : Prop where
  gC : mg x = some (.ref C)
  ox : OexC K C
  no : ∀ f ∈ fs, PySem.W.findIn K (.ref C) f = some none
  iC : PySem.W.findIn K (.ref C) "__init__" = some (some (.ref fI))
  tI : PySem.W.typeIn K (.ref fI) = some (.type "function")
  F : Fun K "__init__" (x ++ ".__init__") (iniS st) fI fd
  b : Binds K fd ("self" :: fs) []
  xc : ExcC K C
theorem EcT.xf {K : PySem.W.Frag} {mg : Str → Option Value} {x : Str} {fs : List Str} {st : Stmt} {C fI : Addr} {fd : FuncData} (e : EcT K mg x fs st C fI fd) : XfC K C := ⟨e.xc.hg, e.xc.hk, e.xc.hs, e.xc.hd⟩
structure NmC (K : PySem.W.Frag) (mg : Str → Option Value) (x : Str) (C : Addr) : Prop where
  g : mg x = some (.ref C)
  ci : PySem.W.isClsIn K C = true
  ty : PySem.W.typeIn K (.ref C) = some (.type "type")
  sb : PySem.W.subIn K (.ref C) (.type "BaseException") = some true
theorem all1 {α : Type} {p : α → Prop} {x : α} (h : p x) : ∀ f ∈ [x], p f := fun f hf => by rw [List.mem_singleton.mp hf]; exact h
theorem all2 {α : Type} {p : α → Prop} {x y : α} (h : p x) (g : p y) : ∀ f ∈ [x, y], p f := fun f hf => by
  rcases List.mem_cons.mp hf with e | e
  · rw [e]; exact h
  · rw [List.mem_singleton.mp e]; exact g
theorem tab1 {p : Str × Bool → Prop} {y : Str × Bool} (h : p y) : ∀ x ∈ [y], p x := fun x hx => by rw [List.mem_singleton.mp hx]; exact h
theorem tabC {p : Str × Bool → Prop} {y : Str × Bool} {r : List (Str × Bool)} (h : p y) (t : ∀ x ∈ r, p x) : ∀ x ∈ y :: r, p x := fun x hx => by
  rcases List.mem_cons.mp hx with e | e
  · rw [e]; exact h
  · exact t x e
theorem relV_ref {C : Addr} : ∀ u, RelV (.ref C) u → u = .ref C := fun _ h => h
theorem relV_ty {n : String} : ∀ u, RelV (.ty n) u → u = .type n := fun _ h => h
theorem x_if' {X : Cx} {q : Nat} {a : Addr} {cls : Value} {d : Option Addr} {pos : Pos} {e : Expr} {rest orelse : List Stmt} {t : Str → List (Str × AV) → BM} {n u : Str → List (Str × AV) → SM} (ht : PT X e (xB (cm X) q a cls d t)) (h1 : PSs X rest (xS (cm X) q a cls d n)) (h2 : PSs X orelse (xS (cm X) q a cls d u)) : PS X (.If e rest orelse pos) (xS (cm X) q a cls d fun c fs => mIf (t c fs) (n c fs) (u c fs)) := PS.imp (ps_if ht h1 h2) fun D σ H hh => by
  have h3 := xS.st (R := RB) (m := t) (f := fun c fs G b M1 => if b = true then n c fs G M1 else u c fs G M1) hh
  refine tX.imp h3 fun k H1 ⟨e0, j, G, b, M, c, fs, s, r, x, rr, p⟩ => ?_
  cases rr
  cases k with
  | true => exact ⟨e0, j, G, M, c, fs, s, r, x, p⟩
  | false => exact ⟨e0, j, G, M, c, fs, s, r, x, p⟩
end Mx



namespace Mx
open PySem L2 PySem.Spec PyProof.Rows
abbrev NmA (P : Program) (w : World) (h : Heap) (k : List Key) (b : Addr) : Prop := IsTupleKey (mixKind P w) h k b
abbrev nmH (P : Program) (w : World) (k : List Key) : Int := tupleKeyHash (mixKind P w) k
section
variable {P : Program} {w : World} {A : Around} {E : Value → Shared → Prop} {s : Shared}
def Small (v : Value) : Prop := ∀ n, ofAClassStatement n v = pure false ∧ ∃ b, hashByValue n v = pure b
theorem parts_small {k : List Key} {vs : List Value} (h : ItemsAre (mixKind P w) k vs) : ∀ v ∈ vs, Small v := by
  induction h with
  | nil => exact fun v hv => nomatch hv
  | @cons k0 v0 ks us hk _ ih =>
    intro v hv
    cases hv with
    | tail _ hv => exact ih v hv
    | head =>
      intro n
      rcases keyIs_shape hk with ⟨i, t, _, rfl⟩ | ⟨x, t, _, rfl⟩ <;> cases n <;> exact ⟨rfl, _, rfl⟩
theorem nm_keep {h h' : Heap} {k : List Key} {b : Addr} (x : NmA P w h k b) (e : ∀ o, h.get? b = some o → h'.get? b = some o) : NmA P w h' k b :=
  let ⟨o, its, n, ho, r⟩ := x
  ⟨o, its, n, e o ho, r⟩
theorem nm_noset {h : Heap} {k : List Key} {a b : Addr} {o : Obj} {es : Array (Int × Value)} {ep : Nat} {t : SetTable} (x : NmA P w h k b) (ho : h.get? a = some o) (hd : o.data = .set es ep t) : b ≠ a := fun e => by
  obtain ⟨o2, its, n, h2, _, hd2, _⟩ := x
  rw [e, ho] at h2
  cases h2
  rw [hd] at hd2
  cases hd2
theorem nm_but {h h' : Heap} {k : List Key} {a b : Addr} {o : Obj} {es : Array (Int × Value)} {ep : Nat} {t : SetTable} (x : NmA P w h k b) (ho : h.get? a = some o) (hd : o.data = .set es ep t) (sb : Heap.SameBut a h h') : NmA P w h' k b :=
  nm_keep x fun u hu => (sb.2 b (nm_noset x ho hd)).trans hu
theorem nm_class {k : List Key} {b : Addr} {Q : Bool → Shared → Prop} (x : NmA P w s.heap k b) (q : Q false s) : wpAny (model P w) A (ofAClassStatement 8 (.ref b)) Q E s := by
  have ty := x.typeIs
  obtain ⟨o, its, n, ho, _, hd, hi⟩ := x
  have sm := parts_small hi
  unfold ofAClassStatement
  refine wpAny_bind (wpAny_typeOf ty ?_)
  dsimp only
  have e : (("tuple" : String) == "tuple") = true := by decide
  simp only [e, if_true, Bool.false_eq_true, Bool.not_true, if_false]
  try refine wpAny_bind (wpAny_pure ?_)
  try simp only [Bool.false_eq_true, Bool.not_true, if_false]
  show wpAny _ _ (seqItems? (.ref b) >>= _) _ _ s
  refine wpAny_bind (wpAny_seqItems ho hd ?_)
  dsimp only
  refine wpAny_bind ?_
  show wpAny _ _ (forIn its _ _) _ _ s
  rw [← Array.forIn_toList]
  refine wpAny_forIn_list _ (fun l r s' => (∀ v ∈ l, Small v) ∧ r.1 = none ∧ s = s') _ ?_ ?_ _ _ ⟨sm, rfl, rfl⟩
  · rintro v l r _ ⟨hs, hr, rfl⟩
    rw [(hs v List.mem_cons_self 7).1]
    refine wpAny_bind (wpAny_pure ?_)
    refine wp_if_neg (by decide) (wpAny_pure ⟨fun u hu => hs u (List.mem_cons_of_mem _ hu), rfl, rfl⟩)
  · rintro ⟨r, r'⟩ _ ⟨_, hr, rfl⟩
    have hr : r = none := hr
    rw [hr]
    exact wpAny_pure q
theorem nm_byval {k : List Key} {b : Addr} {Q : Bool → Shared → Prop} (x : NmA P w s.heap k b) (q : ∀ c, Q c s) : wpAny (model P w) A (hashByValue 8 (.ref b)) Q E s := by
  have ty := x.typeIs
  obtain ⟨o, its, n, ho, _, hd, hi⟩ := x
  have sm := parts_small hi
  unfold hashByValue
  refine wpAny_bind (wpAny_specialOf ty F.slot_tuple_hash.lookup ?_)
  show wpAny _ _ (seqItems? (.ref b) >>= _) _ _ s
  refine wpAny_bind (wpAny_seqItems ho hd ?_)
  refine wpAny_bind ?_
  show wpAny _ _ (forIn its _ _) _ _ s
  rw [← Array.forIn_toList]
  refine wpAny_forIn_list _ (fun l r s' => (∀ v ∈ l, Small v) ∧ r.1 = none ∧ s = s') _ ?_ ?_ _ _ ⟨sm, rfl, rfl⟩
  · rintro v l r _ ⟨hs, hr, rfl⟩
    obtain ⟨c, e⟩ := (hs v List.mem_cons_self 7).2
    rw [e]
    refine wpAny_bind (wpAny_pure ?_)
    cases c with
    | true => exact wp_if_neg (by decide) (wpAny_pure ⟨fun u hu => hs u (List.mem_cons_of_mem _ hu), rfl, rfl⟩)
    | false => exact wp_if_pos (by decide) (wpAny_pure (wpAny_pure (q false)))
  · rintro ⟨r, r'⟩ _ ⟨_, hr, rfl⟩
    have hr : r = none := hr
    rw [hr]
    exact wpAny_pure (q true)
theorem nm_unseen {k : List Key} {b : Addr} {Q : Bool → Shared → Prop} (x : NmA P w s.heap k b) {ys : List Value} (hy : ∀ y ∈ ys, ∃ j c, y = Value.ref c ∧ NmA P w s.heap j c) (q : Q false s) :
    wpAny (model P w) A (searchCouldBeSeen (.ref b) ys) Q E s := by
  unfold searchCouldBeSeen
  refine wpAny_bind ?_
  refine wpAny_forIn_list _ (fun l r s' => (∀ y ∈ l, ∃ j c, y = Value.ref c ∧ NmA P w s.heap j c) ∧ r.1 = none ∧ s = s') _ ?_ ?_ _ _ ⟨hy, rfl, rfl⟩
  · rintro v l r _ ⟨hs, hr, rfl⟩
    obtain ⟨j, c, rfl, y⟩ := hs v List.mem_cons_self
    have more : ∀ y ∈ l, ∃ j c, y = Value.ref c ∧ NmA P w s.heap j c := fun u hu => hs u (List.mem_cons_of_mem _ hu)
    dsimp only
    by_cases hv : (b == c || (carriedByValue (.ref b) && carriedByValue (.ref c))) = true
    · exact wp_if_pos hv (wpAny_pure ⟨more, rfl, rfl⟩)
    refine wp_if_neg hv (wpAny_bind (wpAny_eqIsQuiet_tuple x ?_))
    simp only [Bool.false_eq_true, Bool.not_true, if_false]
    refine wpAny_bind (wpAny_eqIsQuiet_tuple y ?_)
    simp only [Bool.false_eq_true, Bool.not_true, if_false]
    refine wpAny_bind (nm_class x (wp_if_neg (by decide) ?_))
    refine wpAny_bind (nm_class y (wp_if_neg (by decide) ?_))
    exact wpAny_pure ⟨more, rfl, rfl⟩
  · rintro ⟨r, r'⟩ _ ⟨_, hr, rfl⟩
    have hr : r = none := hr
    rw [hr]
    exact wpAny_pure q
abbrev rowN (P : Program) (w : World) (p : List Key × Addr) : Int × Value := (nmH P w p.1, .ref p.2)
structure NmS (P : Program) (w : World) (h : Heap) (a : Addr) (L : List (List Key × Addr)) (es : Array (Int × Value)) (ep : Nat) (t : SetTable) : Prop where
  has : ∃ o, h.get? a = some o ∧ o.ExactSet ∧ o.data = .set es ep t
  eq : es.toList = L.map (rowN P w)
  tb : TabOk t (L.map fun p => nmH P w p.1)
  un : (L.map Prod.fst).Nodup
  nm : ∀ p ∈ L, NmA P w h p.1 p.2
  ld : w.params.followText "set-order" = true ∨ t.led = true
  rm : L.length * 5 < t.mask * 3
  fw : L.length < 64
variable {a : Addr} {L : List (List Key × Addr)} {es : Array (Int × Value)} {ep : Nat} {t : SetTable}
theorem rows_len (e : es.toList = L.map (rowN P w)) : es.size = L.length := by
  rw [← Array.length_toList, e, List.length_map]
theorem rows_at (e : es.toList = L.map (rowN P w)) (i : Nat) : es[i]? = L[i]?.map (rowN P w) := by
  rw [← Array.getElem?_toList, e, List.getElem?_map]
theorem NmS.psz {h : Heap} (R : NmS P w h a L es ep t) : t.place.size = L.length := by
  have := R.tb.sz
  rwa [List.length_map] at this
theorem fits_of (h1 : t.place.size = es.size) (h2 : t.dummies = #[]) (h3 : es.size ≤ t.mask) : t.fits es.size = true := by
  simp only [SetTable.fits, SetTable.fill, h2, Bool.and_eq_true, beq_iff_eq, decide_eq_true_eq]
  exact ⟨h1, by show t.place.size + 0 ≤ t.mask; omega⟩
theorem NmS.ft {h : Heap} (R : NmS P w h a L es ep t) : t.fits es.size = true := by
  have h1 := rows_len R.eq
  have h2 := R.psz
  have h3 := R.rm
  exact fits_of (by omega) R.tb.dm (by omega)
theorem NmS.keep {h h' : Heap} (R : NmS P w h a L es ep t) (ha : ∀ o, h.get? a = some o → h'.get? a = some o) (hn : ∀ p ∈ L, NmA P w h' p.1 p.2) : NmS P w h' a L es ep t :=
  ⟨let ⟨o, ho, r⟩ := R.has; ⟨o, ha o ho, r⟩, R.eq, R.tb, R.un, hn, R.ld, R.rm, R.fw⟩
abbrev first (m : Nat) (h : Int) : SetTable.Probe := runAt m (SetTable.bits h % (m + 1)) (SetTable.bits h)
theorem nodum (m : Nat) : ∀ (n : Nat) (p : SetTable.Probe), p.dummy = none → (nth m p n).dummy = none
  | 0, _, h => h
  | n + 1, p, h => nodum m n (adv m p) (by unfold adv; split <;> exact h)
theorem seek (R : NmS P w s.heap a L es ep t) {x : Addr} {k : List Key} (hx : NmA P w s.heap k x) (hu : A.units < cLine) {Q : SetFound → Shared → Prop}
    (yes : k ∈ L.map Prod.fst → Q (.there none) s)
    (no : k ∉ L.map Prod.fst → ∀ K, way t.mask (nmH P w k) K ∉ t.place.toList → (∀ c, c < K → way t.mask (nmH P w k) c ∈ t.place.toList) → Q (.free (way t.mask (nmH P w k) K) false) s) :
    wpAny (model P w) A (setSearch a (.ref x) (nmH P w k) true) Q E s := by
  generalize hH : nmH P w k = H at *
  have hlen : (L.map fun p => nmH P w p.1).length = L.length := List.length_map ..
  have hrm := R.rm
  obtain ⟨K, k1, k2, k3⟩ := R.tb.first (by rw [hlen]; omega) H
  have kb : K < 1500 := by
    have : SetTable.turns t.mask ≤ 142 := by
      unfold SetTable.turns
      rcases R.tb.mok with e | e | e <;> omega
    omega
  have no := fun z => no z K k2 k3
  obtain ⟨o, ho, hex, hd⟩ := R.has
  have gw : ¬ t.gaveWay = true := by
    unfold SetTable.gaveWay
    rw [mask_odd R.tb.mok]
    decide
  have same : t.sameMemory t.moves t.mask = some true := if_pos (beq_self_eq_true _)
  have hsz := R.psz
  have hat : ∀ (i : Nat) p, L[i]? = some p → (es[i]?.map (·.1)).getD 0 = nmH P w p.1 := fun i p hp => by
    rw [rows_at R.eq, hp]
    rfl
  suffices go : ∀ (f c : Nat) (stand : Option SetTable.Probe), stand.getD (t.probeStart H) = nth t.mask (first t.mask H) c → c ≤ K → K < f + c →
      (∀ (i : Nat) p, L[i]? = some p → p.1 = k → ∃ d, c ≤ d ∧ d < K ∧ t.place.toList[i]? = some (way t.mask H d)) → wpAny (model P w) A (setSearchFrom a (.ref x) H true f stand) Q E s by
    unfold setSearch
    refine go 100000 0 none rfl (Nat.zero_le _) (by omega) fun i p hp hk => ?_
    obtain ⟨il, _⟩ := List.getElem?_eq_some_iff.mp hp
    have hj : t.place.toList[i]? = some (t.place.toList[i]'(by rw [Array.length_toList]; omega)) := List.getElem?_eq_getElem _
    have hi : (L.map fun p => nmH P w p.1)[i]? = some H := by rw [List.getElem?_map, hp, ← hH, ← hk]; rfl
    obtain ⟨d, dK, e⟩ := R.tb.before k2 hi hj
    exact ⟨d, Nat.zero_le _, dK, by rw [hj, e]⟩
  intro f
  induction f with
  | zero => intro c _ _ h1 h2; omega
  | succ f ih =>
    intro c stand hst hc hf hre
    rw [setSearchFrom_succ]
    refine wpAny_bind (wpAny_setState_of ho hd R.ft ?_)
    dsimp only
    refine wp_if_neg gw ?_
    try refine wpAny_bind (wpAny_pure ?_)
    have step : ∀ q, nth t.mask (nth t.mask (first t.mask H) c) q = nth t.mask (first t.mask H) (c + q) := fun q => (nth_add _ c _ q).symm
    have sp := go_spec t R.tb.ris R.tb.dm (fun i => (es[i]?.map (·.1)).getD 0) H (10 * SetTable.turns t.mask) (K - c) (nth t.mask (first t.mask H) c) (nodum _ c _ rfl) (by omega)
      (fun q hq => by rw [step]; exact k3 (c + q) (by omega)) (by rw [step, show c + (K - c) = K by omega]; exact k2)
    simp only [step] at sp
    rcases sp with ⟨q, i, hq, hi, hh, hno, hpr⟩ | ⟨hno, hpr⟩
    · have hpr : t.probe (fun i => (es[i]?.map (·.1)).getD 0) H (stand.getD (t.probeStart H)) = some (.candidate (way t.mask H (c + q)) i (nth t.mask (first t.mask H) (c + (q + 1)))) := by
        rw [hst]
        exact hpr
      rw [hpr]
      dsimp only
      have il : i < L.length := by
        have := (List.getElem?_eq_some_iff.mp hi).1
        rw [Array.length_toList] at this
        omega
      obtain ⟨p, hp⟩ : ∃ p, L[i]? = some p := ⟨_, List.getElem?_eq_getElem il⟩
      have hpm := List.mem_of_getElem? hp
      have hrow : es[i]? = some (rowN P w p) := by rw [rows_at R.eq, hp]; rfl
      have hsl : t.slot (way t.mask H (c + q)) = .live i := slot_live R.tb.ris hi
      have rest : wpAny (model P w) A (searchRest a (.ref x) H true f es t (way t.mask H (c + q)) i (nth t.mask (first t.mask H) (c + (q + 1)))) Q E s := by
        unfold searchRest
        rw [hrow]
        dsimp only [rowN]
        refine wpAny_bind (wpAny_holding (wpAny_eqBool_tuple hu (R.nm p hpm) hx ?_))
        refine wpAny_bind (wpAny_setState_of ho hd R.ft ?_)
        dsimp only
        by_cases e : p.1 = k
        · exact wp_if_pos (by simp [e]) (wpAny_pure (yes (List.mem_map.mpr ⟨p, hpm, e⟩)))
        refine wp_if_neg (by simp [e]) ?_
        try refine wpAny_bind (wpAny_pure ?_)
        rw [same]
        simp only [if_true, hsl, hrow]
        refine wpAny_bind (wpAny_isSame_ref_self (wpAny_bind (wpAny_pure ?_)))
        simp only [if_true]
        refine wp_if_neg (by simp [e]) (ih (c + (q + 1)) _ rfl (by omega) (by omega) fun i2 p2 hp2 e2 => ?_)
        obtain ⟨d, d1, dK, d2⟩ := hre i2 p2 hp2 e2
        refine ⟨d, ?_, dK, d2⟩
        apply Classical.byContradiction
        intro z
        by_cases y : d = c + q
        · subst y
          have := slot_live R.tb.ris d2
          rw [hsl] at this
          cases this
          rw [hp] at hp2
          cases hp2
          exact e e2
        · refine hno (d - c) i2 (by omega) (by rw [show c + (d - c) = d by omega]; exact d2) ?_
          rw [hat i2 p2 hp2, e2, hH]
      by_cases hl : t.led = true
      · refine wp_if_neg (by simp [hl]) ?_
        try refine wpAny_bind (wpAny_pure ?_)
        exact rest
      refine wp_if_pos (by simp [hl]) (wpAny_bind (nm_unseen hx (fun y hy => ?_) (wp_if_neg (by decide) ?_)))
      · obtain ⟨e, he, rfl⟩ := List.mem_map.mp hy
        have he : e ∈ es.toList := by
          have : e ∈ es ∧ e.1 = H := by simpa using he
          simpa using this.1
        rw [R.eq] at he
        obtain ⟨p2, hp2, rfl⟩ := List.mem_map.mp he
        exact ⟨p2.1, p2.2, rfl, R.nm p2 hp2⟩
      · try refine wpAny_bind (wpAny_pure ?_)
        exact rest
    · have hpr : t.probe (fun i => (es[i]?.map (·.1)).getD 0) H (stand.getD (t.probeStart H)) = some (.empty (way t.mask H K) none) := by
        rw [show c + (K - c) = K by omega] at hpr
        rw [hst]
        exact hpr
      rw [hpr]
      dsimp only
      refine wpAny_pure (no fun z => ?_)
      obtain ⟨p, hp, e⟩ := List.mem_map.mp z
      obtain ⟨i, hi⟩ := List.mem_iff_getElem?.mp hp
      obtain ⟨d, d1, dK, d2⟩ := hre i p hi e
      exact hno (d - c) i (by omega) (by rw [show c + (d - c) = d by omega]; exact d2) (by rw [hat i p hi, e, hH])
theorem ins_rows (L : List (List Key × Addr)) (p : Nat) (y : List Key × Addr) : (L.take p ++ y :: L.drop p).map (rowN P w) = (L.map (rowN P w)).take p ++ rowN P w y :: (L.map (rowN P w)).drop p := by
  simp [List.map_take, List.map_drop]
theorem ins_perm {α : Type} (L : List α) (p : Nat) (y : α) : (L.take p ++ y :: L.drop p).Perm (y :: L) := by
  conv => rhs; rw [← List.take_append_drop p L]
  exact List.perm_middle
theorem rows_order (e : es.toList = L.map (rowN P w)) {order : Array Nat} (pm : order.toList.Perm (List.range L.length)) :
    ∃ L2 : List (List Key × Addr), (order.filterMap (es[·]?)).toList = L2.map (rowN P w) ∧ L2.Perm L ∧ (L2.map fun p => nmH P w p.1) = order.toList.map fun i => (es.map (·.1)).getD i 0 := by
  refine ⟨order.toList.filterMap (fun i => L[i]?), ?_, ?_, ?_⟩
  · rw [Array.toList_filterMap, List.map_filterMap]
    exact congrArg (fun f => List.filterMap f order.toList) (funext (rows_at e))
  · have h := pm.filterMap (fun i => L[i]?)
    have h2 : (List.range L.length).filterMap (fun i => L[i]?) = L := by
      have : ∀ M : List (List Key × Addr), (List.range M.length).filterMap (fun i => M[i]?) = M := fun M => by
        induction M with
        | nil => rfl
        | cons x M ih =>
          rw [List.length_cons, List.range_succ_eq_map, List.filterMap_cons_some (b := x) (by simp), List.filterMap_map]
          refine congrArg (x :: ·) (Eq.trans ?_ ih)
          exact congrArg (fun f => List.filterMap f (List.range M.length)) (funext fun i => by simp)
      exact this L
    rwa [h2] at h
  · have hl : ∀ i ∈ order.toList, i < L.length := fun i hi => List.mem_range.mp (pm.mem_iff.mp hi)
    generalize order.toList = l at hl
    induction l with
    | nil => rfl
    | cons i l ih =>
      have hi := hl i List.mem_cons_self
      rw [List.filterMap_cons_some (List.getElem?_eq_getElem hi), List.map_cons, List.map_cons, ih fun j hj => hl j (List.mem_cons_of_mem _ hj)]
      congr 1
      have e5 : (es.map (·.1))[i]? = some (nmH P w (L[i]).1) := by rw [Array.getElem?_map, rows_at e, List.getElem?_eq_getElem hi]; rfl
      simp [Array.getD_eq_getD_getElem?, e5]
theorem relay_nm {o : Obj} (ho : s.heap.get? a = some o) (hex : o.ExactSet) (hd : o.data = .set es ep t) (e : es.toList = L.map (rowN P w)) (hps : t.place.size = es.size) (hdm : t.dummies = #[]) (hm : es.size ≤ t.mask)
    (un : (L.map Prod.fst).Nodup) (nm : ∀ p ∈ L, NmA P w s.heap p.1 p.2) (ld : w.params.followText "set-order" = true ∨ t.led = true) (fw : L.length < 64) {n m : Nat}
    (h1 : SetTable.sizeAbove n = m + 1) (h2 : MaskOk m) (h3 : L.length * 5 < m * 3) {Q : Unit → Shared → Prop}
    (q : ∀ h' L' es' ep' t', Heap.SameBut a s.heap h' → NmS P w h' a L' es' ep' t' → L'.Perm L → Q () { s with heap := h' }) : wpAny (model P w) A (setRelay a n) Q E s := by
  have hl := rows_len e
  have hm2 : m ≤ 127 := by rcases h2 with z | z | z <;> omega
  obtain ⟨t', order, e1, pm, T, em, el, _, ed⟩ := relaid_ok t (hs := es.map (·.1)) (wanted := n) (M := m) (by omega) h2 (by rw [Array.size_map]; omega)
  rw [Array.size_map, hl] at pm
  obtain ⟨L2, r1, r2, r3⟩ := rows_order e pm
  rw [← r3] at T
  have hs2 : (order.filterMap (es[·]?)).size = es.size := by rw [rows_len r1, r2.length_eq, hl]
  rw [setRelay_eq]
  refine wpAny_bind (wpAny_setState_of ho hd (fits_of hps hdm hm) ?_)
  dsimp only
  refine wp_if_neg (by rw [sizeLine_eq]; omega) ?_
  try refine wpAny_bind (wpAny_pure ?_)
  rw [e1]
  dsimp only
  refine wpAny_bind (wp_if_neg (by rw [hs2]; simp) ?_)
  try refine wpAny_bind (wpAny_pure ?_)
  refine wpAny_pure (wpAny_storeSet_of ho hd ?_ (by rw [hs2, sizeLine_eq]; omega))
  have sb := Heap.SameBut.update s.heap a (Obj.putSet (order.filterMap (es[·]?)) t')
  refine q _ L2 (order.filterMap (es[·]?)) (ep + 1) t' sb ?_ r2
  exact { has := ⟨_, store_at ho hd, ⟨hex.1, hex.2.1, hex.2.2⟩, rfl⟩, eq := r1, tb := T, un := (r2.map Prod.fst).nodup_iff.mpr un, nm := fun p hp => nm_but (nm p (r2.mem_iff.mp hp)) ho hd sb,
          ld := by rwa [el], rm := by rw [r2.length_eq, em]; exact h3, fw := by rw [r2.length_eq]; exact fw }
theorem tabOk_plain {t : SetTable} {hs : List Int} (T : TabOk t hs) (b : Bool) : TabOk { t with plain := b } hs := ⟨T.ris, T.dm, T.sz, T.mok, T.bd, T.reach⟩
theorem add_nm (R : NmS P w s.heap a L es ep t) {x : Addr} {k : List Key} (hx : NmA P w s.heap k x) (hu : A.units < cLine) (fw : L.length + 1 < 64) {Q : Bool → Shared → Prop}
    (q : ∀ b h' L' es' ep' t', Heap.SameBut a s.heap h' → NmS P w h' a L' es' ep' t' → (k ∈ L.map Prod.fst → L' = L) → (k ∉ L.map Prod.fst → L'.Perm ((k, x) :: L)) → Q b { s with heap := h' }) :
    wpAny (model P w) A (setAddHashed a (.ref x) (nmH P w k)) Q E s := by
  obtain ⟨o, ho, hex, hd⟩ := R.has
  have hl := rows_len R.eq
  have hrm := R.rm
  unfold setAddHashed
  refine wpAny_holding ?_
  rw [show (100000 : Nat) = 99999 + 1 from rfl, setAddHashedIn_succ]
  refine wpAny_bind (wpAny_setState_of ho hd R.ft ?_)
  dsimp only
  refine wp_if_neg (by simp [byScan, Value.scannable]) ?_
  try refine wpAny_bind (wpAny_pure ?_)
  refine wpAny_bind (seek R hx hu (fun hm => ?_) fun hm K k2 k3 => ?_)
  · exact wpAny_pure (q false s.heap L es ep t (Heap.SameBut.refl a s.heap) R (fun _ => rfl) fun z => absurd hm z)
  dsimp only
  refine wpAny_bind (wpAny_setState_of ho hd R.ft ?_)
  dsimp only
  obtain ⟨q1, _, q3, q4, q5, q6, _, _, q9⟩ := R.tb.put k2 k3
  generalize t.put (way t.mask (nmH P w k) K) = pt at q1 q3 q4 q5 q6 q9 ⊢
  obtain ⟨t1, p⟩ := pt
  dsimp only at q1 q3 q4 q5 q6 q9 ⊢
  rw [← q1] at q3
  clear q1
  rw [List.length_map] at q9
  have hpm := ins_perm L p (k, x)
  have hin : (SetTable.insertAt es p (nmH P w k, Value.ref x)).toList = (L.take p ++ (k, x) :: L.drop p).map (rowN P w) := by
    rw [SetTable.toList_insertAt, ins_rows, R.eq]
  have hT : TabOk t1 ((L.take p ++ (k, x) :: L.drop p).map fun p => nmH P w p.1) := by
    have e : ((L.take p ++ (k, x) :: L.drop p).map fun p => nmH P w p.1) = (L.map fun p => nmH P w p.1).take p ++ nmH P w k :: (L.map fun p => nmH P w p.1).drop p := by
      simp [List.map_take, List.map_drop]
    rw [e]
    exact q3
  clear q3
  generalize SetTable.insertAt es p (nmH P w k, Value.ref x) = es1 at hin ⊢
  generalize L.take p ++ (k, x) :: L.drop p = L1 at hpm hin hT
  have hL1 : L1.length = L.length + 1 := hpm.length_eq
  have hl1 := rows_len hin
  have un1 : (L1.map Prod.fst).Nodup := (hpm.map Prod.fst).nodup_iff.mpr (List.nodup_cons.mpr ⟨hm, R.un⟩)
  have fin : ∀ t2, (∃ b, t2 = { t1 with plain := b }) → wpAny (model P w) A (do
      storeSet a es1 t2
      if !false && t2.tooFull then setRelay a (SetTable.grown (es.size + 1))
      return true) Q E s := fun t2 ⟨b, e2⟩ => by
    have T2 : TabOk t2 (L1.map fun p => nmH P w p.1) := e2 ▸ tabOk_plain hT b
    have m2 : t2.mask = t.mask := by rw [e2]; exact q4
    have l2 : w.params.followText "set-order" = true ∨ t2.led = true := by
      rw [e2]
      show _ ∨ t1.led = true
      rw [q5]
      exact R.ld
    have f2 : t2.fill = L.length + 1 := by rw [e2]; exact q9
    clear e2
    refine wpAny_bind (wpAny_storeSet_of ho hd ?_ (by rw [hl1, sizeLine_eq]; omega))
    have sb := Heap.SameBut.update s.heap a (Obj.putSet es1 t2)
    have ho1 := store_at (es' := es1) (t' := t2) ho hd
    generalize s.heap.update a (Obj.putSet es1 t2) = h1 at sb ho1 ⊢
    have nm1 : ∀ p ∈ L1, NmA P w h1 p.1 p.2 := fun p hp => by
      rcases List.mem_cons.mp (hpm.mem_iff.mp hp) with z | z
      · rw [z]; exact nm_but hx ho hd sb
      · exact nm_but (R.nm p z) ho hd sb
    by_cases hf : t2.tooFull = true
    · have full : (L.length + 1) * 5 ≥ t2.mask * 3 := by
        unfold SetTable.tooFull at hf
        rw [decide_eq_true_eq, f2] at hf
        exact hf
      have go : ∀ m, SetTable.sizeAbove (SetTable.grown (L.length + 1)) = m + 1 → MaskOk m → L1.length * 5 < m * 3 → L1.length ≤ t2.mask →
          wpAny (model P w) A (setRelay a (SetTable.grown (es.size + 1))) (fun _ s' => wpAny (model P w) A (pure true) Q E s') E { s with heap := h1 } := fun m z1 z2 z3 z4 => by
        rw [hl]
        have hps2 := T2.sz
        rw [List.length_map] at hps2
        refine relay_nm (s := { s with heap := h1 }) ho1 ⟨hex.1, hex.2.1, hex.2.2⟩ rfl hin (by rw [hps2, hl1]) T2.dm (by omega) un1 nm1 l2 (by omega) z1 z2 z3 fun h2 L2 es2 ep2 t3 sb2 R2 pm2 => ?_
        exact wpAny_pure (q true h2 L2 es2 ep2 t3 (sb.trans sb2) R2 (fun z => absurd z hm) fun _ => pm2.trans hpm)
      have two : (t.mask = 7 ∧ L.length = 4) ∨ (t.mask = 31 ∧ L.length = 18) := by
        rw [m2] at full
        rcases R.tb.mok with z | z | z
        · rw [z] at full hrm; omega
        · rw [z] at full hrm; omega
        · rw [z] at full; omega
      refine wp_if_pos (by simp [hf]) (wpAny_bind ?_)
      rcases two with ⟨z, e⟩ | ⟨z, e⟩
      · exact go 31 (by rw [e]; exact size_20) (.inr (.inl rfl)) (by omega) (by omega)
      · exact go 127 (by rw [e]; exact size_76) (.inr (.inr rfl)) (by omega) (by omega)
    · refine wp_if_neg (by simp [hf]) (wpAny_pure ?_)
      refine q true h1 L1 es1 (ep + 1) t2 sb { has := ⟨_, ho1, ⟨hex.1, hex.2.1, hex.2.2⟩, rfl⟩, eq := hin, tb := T2, un := un1, nm := nm1, ld := l2, rm := ?_, fw := by omega } (fun z => absurd z hm) fun _ => hpm
      have : ¬ ((L.length + 1) * 5 ≥ t2.mask * 3) := fun z => hf (by
        unfold SetTable.tooFull
        rw [decide_eq_true_eq, f2]
        exact z)
      omega
  by_cases hp : t1.plain = true
  · refine wp_if_pos hp (wpAny_bind (nm_byval hx fun c => ?_))
    cases c with
    | true => exact fin _ ⟨t1.plain, rfl⟩
    | false => exact fin _ ⟨false, rfl⟩
  · refine wp_if_neg hp (wpAny_bind (wpAny_pure ?_))
    exact fin _ ⟨t1.plain, rfl⟩
end
end Mx

namespace Mx
open PySem L2 PySem.Spec PyProof.Rows PySem.W
section
variable {P : Program} {w : World} {A : Around} {E : Value → Shared → Prop} {s : Shared}
structure Fed (ks : List (List Key × Addr)) (i : Nat) (L : List (List Key × Addr)) : Prop where
  of : ∀ p ∈ L, p ∈ ks
  al : ∀ p ∈ ks.take i, p.1 ∈ L.map Prod.fst
  le : L.length ≤ i
theorem Fed.one {ks L L' : List (List Key × Addr)} {i : Nat} {p : List Key × Addr} (g : Fed ks i L) (hp : ks[i]? = some p) (h1 : p.1 ∈ L.map Prod.fst → L' = L) (h2 : p.1 ∉ L.map Prod.fst → L'.Perm (p :: L)) : Fed ks (i + 1) L' := by
  have et : ks.take (i + 1) = ks.take i ++ [p] := by rw [List.take_add_one, hp]; rfl
  have hm := List.mem_of_getElem? hp
  by_cases c : p.1 ∈ L.map Prod.fst
  · rw [h1 c]
    refine ⟨g.of, fun y hy => ?_, Nat.le_succ_of_le g.le⟩
    rw [et] at hy
    rcases List.mem_append.mp hy with z | z
    · exact g.al y z
    · rw [List.mem_singleton.mp z]
      exact c
  · have pm := h2 c
    refine ⟨fun y hy => ?_, fun y hy => ?_, ?_⟩
    · rcases List.mem_cons.mp (pm.mem_iff.mp hy) with z | z
      · rw [z]; exact hm
      · exact g.of y z
    · rw [et] at hy
      refine (pm.map Prod.fst).mem_iff.mpr ?_
      rcases List.mem_append.mp hy with z | z
      · exact List.mem_cons_of_mem _ (g.al y z)
      · rw [List.mem_singleton.mp z]
        exact List.mem_cons_self
    · rw [pm.length_eq]
      exact Nat.succ_le_succ g.le
theorem fed0 (ks : List (List Key × Addr)) : Fed ks 0 [] := ⟨fun _ z => (nomatch z), fun _ z => (by simp at z), Nat.le_refl _⟩
theorem fresh_nm {h : Heap} {a : Addr} (ho : h.get? a = some { cls := .type "set", dict := none, data := .set #[] 0 (.fresh 0 0 (!w.params.followText "set-order")) }) : NmS P w h a [] #[] 0 (.fresh 0 0 (!w.params.followText "set-order")) :=
  { has := ⟨_, ho, ⟨rfl, rfl, rfl⟩, rfl⟩, eq := rfl, tb := ⟨.nil, rfl, rfl, .inl rfl, fun _ z => (nomatch z), fun i _ _ z => (by simp at z)⟩, un := .nil, nm := fun _ z => (nomatch z),
    ld := (by
      show _ ∨ (!w.params.followText "set-order") = true
      cases w.params.followText "set-order" <;> simp), rm := (show 0 * 5 < 7 * 3 by decide), fw := (show 0 < 64 by decide) }
theorem feed_nm {I : Addr} {fp wr : List Addr} {G : Array GenState → Array GenState → Prop} {n : Nat} {Pv : Nat → Value → Prop} {St : Nat → Shared → Prop} {R : Result → Shared → Prop}
    (W : WalksS P w A.in1 I fp wr G n Pv St) {S : Addr} (hS : S ∉ fp) {ks : List (List Key × Addr)} (hn : n = ks.length) (fw : ks.length < 64) (hv : ∀ i v, Pv i v → ∃ p, ks[i]? = some p ∧ v = .ref p.2)
    {h0 : Heap} (hk : ∀ p ∈ ks, NmA P w h0 p.1 p.2) (hS0 : h0.get? S = none) (hw0 : ∀ b ∈ wr, h0.get? b = none) (hu : A.in1.units < cLine) :
    ∀ (r i : Nat) (s : Shared), r + i = n → St i s → (∀ b o, h0.get? b = some o → s.heap.get? b = some o) → (∃ L es ep t, NmS P w s.heap S L es ep t ∧ Fed ks i L) →
      (∀ s' L es ep t, Moved (S :: wr) G s s' → NmS P w s'.heap S L es ep t → Fed ks n L → (∀ b o, h0.get? b = some o → s'.heap.get? b = some o) → R (.ok (.ret .none)) s') →
      codeAny (model P w) A (.builtin "set.update.loop" ⟨[.ref S, .ref I], []⟩) R s := by
  have hSw : S ∉ wr := fun z => hS (W.sub _ z)
  have up : ∀ b ∈ wr, b ∈ S :: wr := fun _ hb => .tail _ hb
  have old : ∀ {x y : Shared}, Moved wr G x y → (∀ b o, h0.get? b = some o → x.heap.get? b = some o) → ∀ b o, h0.get? b = some o → y.heap.get? b = some o := fun hm hx b o e =>
    hm.heap b o (fun z => by rw [hw0 b z] at e; exact nomatch e) (hx b o e)
  have kept : ∀ {x y : Shared} {i : Nat} {L es ep t}, Moved wr G x y → (∀ b o, h0.get? b = some o → y.heap.get? b = some o) → NmS P w x.heap S L es ep t → Fed ks i L → NmS P w y.heap S L es ep t := fun hm hy R g =>
    R.keep (fun o e => hm.heap S o hSw e) fun p hp => nm_keep (hk p (g.of p hp)) (hy p.2)
  intro r
  induction r with
  | zero =>
    intro i s hi hst hx ⟨L, es, ep, t, hR, g⟩ q
    have e : n = i := by omega
    subst e
    refine codeAny_builtin F.entry_set_update_loop ?_
    rw [Around.under_plainId F.plain_set_update_loop _]
    show wpAny _ A.in1 (pyNext (.ref I) >>= _) _ _ s
    refine wpAny_bind (W.done s _ _ hst fun y hm => ?_)
    have hy := old hm hx
    exact wpAny_pure (q y L es ep t (hm.mono up) (kept hm hy hR g) g hy)
  | succ r ih =>
    intro i s hi hst hx ⟨L, es, ep, t, hR, g⟩ q
    refine codeAny_builtin F.entry_set_update_loop ?_
    rw [Around.under_plainId F.plain_set_update_loop _]
    show wpAny _ A.in1 (pyNext (.ref I) >>= _) _ _ s
    refine wpAny_bind (W.item i s _ _ (by omega) hst fun v y hP hst' hm => ?_)
    obtain ⟨p, hp, rfl⟩ := hv i v hP
    have hy := old hm hx
    have hx2 : NmA P w y.heap p.1 p.2 := nm_keep (hk p (List.mem_of_getElem? hp)) (hy p.2)
    show wpAny _ A.in1 (holding [Value.ref p.2] (setAdd S (.ref p.2)) >>= _) _ _ y
    refine wpAny_bind (wpAny_holding ?_)
    unfold setAdd
    refine wpAny_holding (wpAny_bind (wpAny_pyHash_tuple hu hx2 ?_))
    have R1 := kept hm hy hR g
    have gl := g.le
    refine add_nm (s := { y with toks := y.toks + (p.1.length + 1) }) R1 hx2 hu (by omega) fun b h' L' es' ep' t' sb R2 c1 c2 => ?_
    have hz : ∀ b o, h0.get? b = some o → h'.get? b = some o := fun b o e => (sb.2 b fun z => by rw [z, hS0] at e; exact nomatch e).trans (hy b o e)
    have hfp : ∀ b ∈ fp, ∀ o, y.heap.get? b = some o → h'.get? b = some o := fun b hb o e => (sb.2 b fun z => hS (z ▸ hb)).trans e
    refine wpAny_pure ⟨plainId_quiet F.plain_set_update_loop _, ih (i + 1) _ (by omega) (W.frame _ y _ _ hst' (Nat.le_add_right _ _) hfp) hz ⟨L', es', ep', t', R2, g.one hp c1 c2⟩ fun z L2 es2 ep2 t2 m2 R3 g3 hz3 => ?_⟩
    refine q z L2 es2 ep2 t2 (Moved.trans W.gtrans ((hm.mono up).then_heap (Nat.le_add_right _ _) fun b o hb e => ?_) m2) R3 g3 hz3
    exact (sb.2 b fun z => hb (by rw [z]; exact List.mem_cons_self)).trans e
abbrev set0 (w : World) : Obj := { cls := .type "set", dict := none, data := .set #[] 0 (.fresh 0 0 (!w.params.followText "set-order")) }
set_option maxRecDepth 100000 in
set_option maxHeartbeats 3200000 in
theorem call_set_nm {l : Addr} {its : Array Value} {ks : List (List Key × Addr)} {Q : Value → Shared → Prop} (hh : A.handled = none) (hl : s.heap.IsList l its) (hit : its.toList = ks.map fun p => Value.ref p.2)
    (hk : ∀ p ∈ ks, NmA P w s.heap p.1 p.2) (fw : ks.length < 64) (hu : A.units + 3 < cLine)
    (q : ∀ h' tk L es ep t, NmS P w h' s.heap.objs.size L es ep t → Fed ks ks.length L → (∀ b o, s.heap.get? b = some o → h'.get? b = some o) → Q (.ref s.heap.objs.size) { s with heap := h', toks := tk }) :
    wpAny (model P w) A (call (.type "set") [.ref l]) Q E s := by
  have hn : its.size = ks.length := by rw [← Array.length_toList, hit, List.length_map]
  have h1 := F.called_set.notType
  have h2 := F.called_set.canCreate
  have h3 := F.called_set.made
  have h4 := F.called_set.sub
  have h5 := F.typeCall_set_1 (.ref l)
  obtain ⟨c, tl, h6⟩ := F.called_set.mro
  refine wpAny_call (codeAny_of_tree ?_)
  show wpAny _ _ (callAny (.type "set") _) _ _ _
  refine wpAny_pure ⟨Code.quiet_builtin _ (by decide +kernel), codeAny_builtin F.entry_type_call ?_⟩
  rw [Around.under_plain (weight_type_call_type "set" [.ref l] []) rfl]
  repeat (any_goals (first | assumption | wp_step))
  refine codeAny_mono (code_set_led1 (.ref l) (E := E) (Q₁ := fun v y => v = .ref s.heap.objs.size ∧ y = { s with heap := s.heap.push (set0 w) }) ⟨rfl, rfl⟩) fun r y hr => ?_
  match r, hr with
  | .error _, hr => exact hr
  | .ok (.ret v), hr =>
    obtain ⟨rfl, rfl⟩ := hr
    have hS : (s.heap.push (set0 w)).get? s.heap.objs.size = some (set0 w) := Heap.get?_push_size _ rfl
    have hT : Shared.TypeIs { s with heap := s.heap.push (set0 w) } (.ref s.heap.objs.size) "set" := ⟨_, hS, rfl⟩
    have i1 := F.called_set.init.lookup
    have i2 := F.called_set.init.bind (.ref s.heap.objs.size)
    repeat (any_goals (first | assumption | wp_step))
    refine codeAny_mono (codeAny_call_builtin (R := wants (fun v y => v = .none ∧ ∃ h' tk L es ep t, y = { s with heap := h', toks := tk } ∧ NmS P w h' s.heap.objs.size L es ep t ∧ Fed ks ks.length L ∧
          (∀ b o, s.heap.get? b = some o → h'.get? b = some o)) E) F.called_set.init.plain F.entry_set_init (check_set_init_1 hT ?_)) fun r2 y2 hr2 => ?_
    · obtain ⟨ol, hol, hcl, nl, hdl⟩ := hl
      obtain ⟨ocls, odict, odata, oslots⟩ := ol
      simp only at hcl hdl
      subst hcl hdl
      have z1 := F.sub_list_set
      have z2 := F.sub_list_frozenset
      have z3 : (Value.type "list" == Value.type "dict") = false := by decide
      have hol' : (s.heap.push (set0 w)).get? l = some { cls := .type "list", dict := odict, data := .seq its nl, slots := oslots } := Heap.get?_push_of_some _ hol
      have hl1 : (s.heap.push (set0 w)).IsList l its := ⟨_, hol', rfl, nl, rfl⟩
      unfold Builtin.«set.__init__» noKeywords Builtin.Frozenset.updateFrom
      generalize hPI : pyIter = PI
      wp_walk
      subst hPI
      refine wpAny_pyIter_list hl1 (wpAny_bind (wpAny_runValue ?_))
      have ll := Heap.lt_size hol
      have hz : (s.heap.push (set0 w)).objs.size = s.heap.objs.size + 1 := Heap.size_push ..
      have n1 : l ≠ (s.heap.push (set0 w)).objs.size := by
        rw [hz]
        exact Nat.ne_of_lt (Nat.lt_succ_of_lt ll)
      have n2 : s.heap.objs.size ∉ [(s.heap.push (set0 w)).objs.size, l] := fun z => by
        rw [hz] at z
        rcases List.mem_cons.mp z with z | z
        · exact absurd z (Nat.ne_of_lt (Nat.lt_succ_self _))
        · exact absurd (List.mem_singleton.mp z) (Nat.ne_of_gt ll)
      have hh3 : A.in1.in1.in1.handled = none := by simp [hh]
      have free : ∀ b, s.heap.objs.size ≤ b → s.heap.get? b = none := fun b hb => by
        cases e : s.heap.get? b with
        | none => rfl
        | some o => exact absurd (Heap.lt_size e) (Nat.not_lt_of_le hb)
      have hv : ∀ (i : Nat) (v : Value), its[i]? = some v → ∃ p, ks[i]? = some p ∧ v = .ref p.2 := fun i v e => by
        rw [← Array.getElem?_toList, hit, List.getElem?_map] at e
        obtain ⟨p, hp, e⟩ := Option.map_eq_some_iff.mp e
        exact ⟨p, hp, e.symm⟩
      refine feed_nm ((Walks.list hh3 _ l n1 its).toS) (S := s.heap.objs.size) n2 hn fw hv (h0 := s.heap) hk (free _ (Nat.le_refl _))
        (fun b hb => free b (by rw [List.mem_singleton.mp hb, hz]; omega)) hu its.size 0 _ rfl ⟨⟨_, Heap.get?_push_size _ rfl, rfl, rfl⟩, hl1.push _⟩ (fun b o e => Heap.get?_push_of_some _ (Heap.get?_push_of_some _ e))
        ⟨[], #[], 0, _, fresh_nm (Heap.get?_push_of_some _ hS), fed0 ks⟩ fun y L es ep t m R g hy => ?_
      obtain ⟨h', g', d', tk', os'⟩ := y
      have e1 : g' = s.gens := m.gens
      have e2 : d' = s.drawn := m.drawn
      have e3 : os' = s.os := m.os
      subst e1 e2 e3
      rw [hn] at g
      exact wpAny_pure (wpAny_pure ⟨rfl, h', tk', L, es, ep, t, rfl, R, g, hy⟩)
    · match r2, hr2 with
      | .error _, hr2 => exact hr2
      | .ok (.ret _), hr2 =>
        obtain ⟨rfl, h', tk, L, es, ep, t, rfl, R, g, hy⟩ := hr2
        repeat (any_goals (first | assumption | wp_step))
        exact q h' tk L es ep t R g hy
end
end Mx

namespace Mx
open PySem hiding Env
open L2 PySem.Spec PyProof.Rows PySem.W
theorem perm_map_ex {α β : Type} {f : α → β} : ∀ {vs : List β} {L : List α}, vs.Perm (L.map f) → ∃ L1 : List α, L1.Perm L ∧ vs = L1.map f
  | [], L, h => ⟨[], by
    have := h.length_eq
    rw [List.length_map] at this
    rw [List.eq_nil_of_length_eq_zero this.symm], rfl⟩
  | v :: r, L, h => by
    obtain ⟨p, hp, rfl⟩ := List.mem_map.mp (h.mem_iff.mp List.mem_cons_self)
    obtain ⟨u, x, rfl⟩ := List.append_of_mem hp
    have h2 : (f p :: r).Perm (f p :: (u ++ x).map f) := h.trans (List.Perm.map f List.perm_middle)
    obtain ⟨L1, pm, rfl⟩ := perm_map_ex ((List.perm_cons _).mp h2)
    exact ⟨p :: L1, (pm.cons p).trans List.perm_middle.symm, rfl⟩
abbrev rowV (p : List Key × Addr) : V × AV := (V.ref p.2, AV.tup (p.1.map keyAV))
def rSortSet (K : PySem.W.Frag) : V → Hp → VK → Prop := fun x H Q => ∃ (l : Addr) (ks : List (List Key × Addr)), x = .ref l ∧ SqL K H l (ks.map fun p => V.ref p.2) ∧ (∀ p ∈ ks, SqT K H p.2 (p.1.map kV)) ∧ ks.length < 64 ∧ SrtOk K H (ks.map rowV) ∧
  ∀ L : List (List Key × Addr), (∀ p ∈ L, p ∈ ks) → (∀ p ∈ ks, p.1 ∈ L.map Prod.fst) → (L.map Prod.fst).Nodup → ∀ p, H p = none → Q (.ref p) (upd H p (.lst ((sortVA (L.map rowV)).map (·.1))))
theorem items_kV {P : Program} {w : World} : ∀ {k : List Key} {us : List Value}, Vals (k.map kV) us → ItemsAre (mixKind P w) k us
  | [], _, .nil => .nil
  | n :: k, _, .cons r t => .cons (kV_is r) (items_kV t)
theorem vals_rf : ∀ {ks : List (List Key × Addr)} {us : List Value}, Vals (ks.map fun p => V.ref p.2) us → us = ks.map fun p => Value.ref p.2
  | [], _, .nil => rfl
  | p :: ks, _, .cons r t => by
    cases r
    rw [vals_rf t]
    rfl
theorem rf_vals : ∀ ks : List (List Key × Addr), Vals ((ks.map rowV).map (·.1)) (ks.map fun p => Value.ref p.2)
  | [] => .nil
  | p :: ks => .cons rfl (rf_vals ks)
theorem SrtOk.sub {K : PySem.W.Frag} {H : Hp} {bs cs : List (V × AV)} (h : SrtOk K H bs) (hs : ∀ b ∈ cs, b ∈ bs) : SrtOk K H cs := by
  have hm : ∀ d ∈ cs.map encA, d ∈ bs.map encA := fun d hd => by
    obtain ⟨b, hb, rfl⟩ := List.mem_map.mp hd
    exact List.mem_map.mpr ⟨b, hs b hb, rfl⟩
  refine ⟨fun b hb => h.dp b (hs b hb), fun d hd e he => h.al d (hm d hd) e (hm e he), ?_⟩
  rcases h.so with z | z
  · exact .inl fun d hd => z d (hm d hd)
  · exact .inr fun d hd => z d (hm d hd)
section
variable {X : Cx}
theorem nm_of {pins : List (Addr × Obj)} {σ : L2.St} {H : Hp} {s : Shared} {b : Addr} {k : List Key} (I : Inv X pins σ H s) (h : SqT X.K H b (k.map kV)) : NmA X.prog X.w s.heap k b := by
  obtain ⟨its, r, ⟨o, ho, hc, n, hd⟩, _⟩ := I.tuple h
  exact ⟨o, its.toArray, n, ho, hc, hd, by simpa using items_kV r⟩
theorem sorted_nm {pins : List (Addr × Obj)} {σ : L2.St} {H : Hp} {s : Shared} {a : Addr} {L : List (List Key × Addr)} {es : Array (Int × Value)} {ep : Nat} {t : SetTable} {Q E : Value → Shared → Prop} (hc : X.calm = true) (hu : X.A.units + 64 < cLine)
    (I : Inv X pins σ H s) (R : NmS X.prog X.w s.heap a L es ep t) (ok : SrtOk X.K H (L.map rowV))
    (q : ∀ (L1 : List (List Key × Addr)) p s', L1.Perm L → Inv X pins σ (upd H p (.lst ((sortVA (L1.map rowV)).map (·.1)))) s' → H p = none → Q (.ref p) s') : wpAny (model X.prog X.w) X.A (call (.builtin "sorted") [.ref a]) Q E s := by
  obtain ⟨o, ho, hex, hd⟩ := R.has
  have hl := rows_len R.eq
  have fw := R.fw
  refine Calls.call_function_entry PyProof.Rows.kind_sorted PyProof.Rows.plain_sorted PyProof.Rows.entry_sorted (PyProof.Rows.args_sorted1 _) ?_
  unfold Builtin.«sorted»
  refine wpAny_bind (m := checkCount "sorted" 1 1 _) (wpAny_pure ?_)
  refine wpAny_bind (collect_set (A := X.A.in1) (I.ok.hd hc) ⟨o, ho, hex.1, hd⟩ R.ft (by unfold scanBound; omega) R.tb.ris R.ld fun s1 vs k1 hz g1 o1 pm => ?_)
  have e1 : es.toList.map (·.2) = L.map fun p => Value.ref p.2 := by
    rw [R.eq, List.map_map]
    rfl
  rw [e1] at pm
  obtain ⟨L1, pL, rfl⟩ := perm_map_ex pm
  have ok1 : SrtOk X.K H (L1.map rowV) := ok.sub fun b hb => (pL.map rowV).mem_iff.mp hb
  have hl1 : L1.length = L.length := pL.length_eq
  obtain ⟨h', g', d', tk, os'⟩ := s1
  have eg : g' = s.gens := g1
  have eo : os' = s.os := o1
  subst eg eo
  have I1 : Inv X pins σ H ⟨h', s.gens, d', tk, s.os⟩ := I.call (ch := []) (Un.kept k1) (I.hok.kept k1) I.bare fun _ z => nomatch z
  clear k1 hz g1 o1 I ho hd R e1
  generalize hvs : (L1.map fun p => Value.ref p.2) = vs
  have rv : Vals ((L1.map rowV).map (·.1)) vs := hvs ▸ rf_vals L1
  have hvl : vs.length = L1.length := by rw [← hvs, List.length_map]
  refine wpAny_bind (wpAny_newList ?_ (by rw [sizeLine_eq]; omega))
  have hoL : (h'.push (seqObj "list" vs.toArray 0)).get? h'.objs.size = some (seqObj "list" vs.toArray 0) := Heap.get?_push_size _ rfl
  have e := each_of_vals (f := fun b : V × AV => b.1) rv
  have er : EachIs (fun v b => ∃ as, Reads (sortingHeap (h'.push (seqObj "list" vs.toArray 0)) h'.objs.size vs) v (encA b) as) vs (L1.map rowV) :=
    (ok1.reads I1 e).mono fun _ _ ⟨as, r⟩ => ⟨as, PyProof.Rows.Reads.keeps (fun b o eb => sortingHeap_old (Nat.ne_of_lt (Heap.lt_size eb)) (Heap.get?_push_of_some _ eb)) r⟩
  have hd2 : ∀ d ∈ (L1.map rowV).map encA, X.A.units + 1 + 1 + d.depth < cLine := fun d hd => by
    obtain ⟨b, hb, rfl⟩ := List.mem_map.mp hd
    exact ok1.depth (n := 2) (by decide) hu b hb
  show wpAny _ _ _ _ _ { heap := h'.push (seqObj "list" vs.toArray 0), gens := s.gens, drawn := d', toks := tk, os := s.os }
  refine wpAny_bind (wpAny_holding (wpAny_call_entry PyProof.Rows.slot_list_sort ⟨_, hoL, rfl⟩ PyProof.Rows.entry_list_sort
    (list_sort_vals (κ := dataKind (sortingHeap (h'.push (seqObj "list" vs.toArray 0)) h'.objs.size vs) ((L1.map rowV).map encA)) hoL
      (SortsAt.data (s := { heap := sortingHeap (h'.push (seqObj "list" vs.toArray 0)) h'.objs.size vs, gens := s.gens, drawn := d', toks := tk, os := s.os }) (each_map (R := fun v d => ∃ as, Reads (sortingHeap (h'.push (seqObj "list" vs.toArray 0)) h'.objs.size vs) v d as) encA er) ok1.al ok1.so hd2) (by rw [sizeLine_eq]; omega) ⟨_, rfl, ?_⟩)
    (PyProof.Rows.args_list_sort _)))
  have hout := sortVals_data false e er ok1.al
  generalize sortVals (dataKind (sortingHeap (h'.push (seqObj "list" vs.toArray 0)) h'.objs.size vs) ((L1.map rowV).map encA)) false vs vs = out at hout ⊢
  obtain ⟨e', he'⟩ := PyProof.Rows.sortedHeap_at (vs := vs) (out := out.toArray) hoL
  have hv := vals_of_each (f := fun b : V × AV => b.1) hout
  have hlo : ((sortVA (L1.map rowV)).map (·.1)).length ≤ sizeLine := by
    unfold sortVA
    rw [List.length_map, List.length_mergeSort, List.length_map, sizeLine_eq]
    omega
  refine wpAny_pure ⟨_, rfl, q L1 h'.objs.size _ pL (I1.laid (t' := tk) (fun b u e => ?_) (Nat.le_refl _) (show ObjOk X.prog X.w _ _ _ (.lst ((sortVA (L1.map rowV)).map (·.1))) from ⟨hlo, out, e', hv, he'⟩)) (I1.hok.fresh (Nat.le_refl _))⟩
  have hb : b < h'.objs.size := Heap.lt_size e
  rw [PyProof.Rows.sortedHeap_old (Nat.ne_of_lt hb) (by rw [size_push']; exact Nat.lt_succ_of_lt hb)]
  exact Heap.get?_push_of_some _ e
theorem pe_sortset {a : Expr} {ta : TE} {p p2 q pos : Pos} (hc : X.calm = true) (hu : X.A.units + 64 < cLine) (hg : Gl X "sorted") (hm : X.mg "sorted" = none) (hg2 : Gl X "set") (hm2 : X.mg "set" = none) (ha : PE X a ta)
    (na : starEach [a] X.env = (false, eval a X.env) :: starEach [] X.env := by rfl) : PE X (.Call (.Name "sorted" p) [.Call (.Name "set" p2) [a] [] q] [] pos) (fun σ H Q => ta σ H fun x H1 => rSortSet X.K x H1 Q) := by
  refine ⟨fun pins s σ H Q I h => ?_⟩
  refine Call_ (ld_blt (u := .builtin "sorted") I hg hm (by kernel_rfl) ?_)
  refine PyProof.Rows.callWith_builtin1 (PyProof.Rows.args_cons ?_ rfl) rfl rfl
  refine Call_ (ld_blt I hg2 hm2 PyProof.Rows.boot_set ?_)
  refine PyProof.Rows.callWith_type1 (PyProof.Rows.args_cons (thn (ha.run pins s σ H _ I h) fun v s1 ⟨x, H1, I1, r1, q1⟩ => PyProof.Rows.args_nil ?_) na) na rfl
  obtain ⟨l, ks, rfl, hl, hk, fw, ok, q1⟩ := q1
  cases r1
  obtain ⟨its, r, pl, hz⟩ := I1.list hl
  refine call_set_nm (I1.ok.hd hc) pl.isList (ks := ks) (by simpa using vals_rf r) (fun p hp => nm_of I1 (hk p hp)) fw (by omega) fun h' tk L es ep t R g hy => ?_
  refine PyProof.Rows.args_nil ?_
  have I2 : Inv X pins σ H1 { s1 with heap := h', toks := tk } := I1.kept hy
  have okL : SrtOk X.K H1 (L.map rowV) := ok.sub fun b hb => by
    obtain ⟨p, hp, rfl⟩ := List.mem_map.mp hb
    exact List.mem_map.mpr ⟨p, g.of p hp, rfl⟩
  refine sorted_nm hc hu I2 R okL fun L1 p s' pm I3 hp => ?_
  refine ⟨.ref p, _, I3, rfl, q1 L1 (fun y hy => g.of y (pm.mem_iff.mp hy)) (fun y hy => (pm.map Prod.fst).mem_iff.mpr (g.al y (by rw [List.take_length]; exact hy))) ((pm.map Prod.fst).nodup_iff.mpr R.un) p hp⟩
end
end Mx


namespace Mx
open PySem hiding Env
open L2 PySem.Spec PyProof.Rows PySem.W
def ValsAt (H : Hp) (a : Addr) (ns : List Int) : Prop := (∃ kvs, H a = some (.dK kvs) ∧ kvs.map (·.2) = ns.map V.int) ∨ ∃ kvs, H a = some (.dT kvs) ∧ kvs.map (·.2) = ns.map V.int
theorem ValsAt.ty {K : PySem.W.Frag} {H : Hp} {p : Addr} {ns : List Int} (h : ValsAt H p ns) : tyV K "dict" (.ref p) H := by
  rcases h with ⟨kvs, e, _⟩ | ⟨kvs, e, _⟩
  · exact .inr (.inr (.inl ⟨rfl, .inl ⟨kvs, e⟩⟩))
  · exact .inr (.inr (.inl ⟨rfl, .inr ⟨kvs, e⟩⟩))
end Mx






namespace Mx
open PySem hiding Env
open L2 PySem.Spec PyProof.Rows PySem.W
theorem FR.carry {K : PySem.W.Frag} {i j : Ix} {H H' : Hp} (e : Carry i j H H') : ∀ {us : List (Str × V)} {fs : List (Str × AV)}, FR K i H us fs → FR K j H' us fs
  | _, _, .nil => .nil
  | _, _, .cons r t => .cons (VR.carry e _ _ r) (FR.carry e t)
theorem XR.carry {C : Cm} {i j : Ix} {H H' : Hp} {cls : Value} {d : Option Addr} {c : Str} {fs : List (Str × AV)} (e : Carry i j H H') (x : XR C i H cls d c fs) : XR C j H' cls d c fs := by
  obtain ⟨A, h1, h2, dx, us, h3, h4, h5, h6⟩ := x
  obtain ⟨g1, g2⟩ := e.same dx _ h4 h5
  exact ⟨A, h1, h2, dx, us, h3, g2, g1, h6.carry e⟩
end Mx




namespace Mx
open PySem L2
def putAll {κ α : Type} [DecidableEq κ] (put : List (κ × α) → κ → α → List (κ × α)) (kvs more : List (κ × α)) : List (κ × α) := more.foldl (fun acc p => put acc p.1 p.2) kvs
theorem KV.all {κ : Type} [DecidableEq κ] : ∀ {more : List (κ × V)} {ms : List (κ × Value)} {kvs : List (κ × V)} {vs : List (κ × Value)}, KV more ms → KV kvs vs → KV (putAll putK kvs more) (PySem.merged vs ms)
  | _, _, _, _, Paired.nil, h => h
  | _, _, kvs, vs, Paired.cons (a := p) (b := q) (l₁ := ps) (l₂ := qs) e t, h => by
    obtain ⟨e1, e2⟩ := e
    have := h.put p.1 e2
    have step : PySem.merged vs (q :: qs) = PySem.merged (stored vs q.1 q.2) qs := rfl
    rw [step, ← e1]
    exact KV.all (kvs := putK kvs p.1 p.2) t this
theorem VRk.all {K : PySem.W.Frag} {i : Ix} {H : Hp} : ∀ {ms : List (Key × V)} {bs : List (Key × AV)} {us : List (Key × V)} {as : List (Key × AV)}, VRk K i H ms bs → VRk K i H us as → VRk K i H (putAll putK us ms) (putAll setK as bs)
  | _, _, _, _, .nil, h => h
  | (k, v) :: _, (_, b) :: _, us, as, .cons r t, h => VRk.all (us := putK us k v) (as := setK as k b) t (VRk.put r h)
theorem VRt.all {K : PySem.W.Frag} {i : Ix} {H : Hp} : ∀ {ms : List (List Key × V)} {bs : List (List Key × AV)} {us : List (List Key × V)} {as : List (List Key × AV)}, VRt K i H ms bs → VRt K i H us as → VRt K i H (putAll putK us ms) (putAll setK as bs)
  | _, _, _, _, .nil, h => h
  | (k, v) :: _, (_, b) :: _, us, as, .cons r t, h => VRt.all (us := putK us k v) (as := setK as k b) t (VRt.put r h)
end Mx

namespace Mx
open PySem L2
def finO (n : Nat) (M : AH) : AV → AV
  | .lst xs => .lst (xs.map (fin n M))
  | .dK kvs => .dK (kvs.map fun p => (p.1, fin n M p.2))
  | .dT kvs => .dT (kvs.map fun p => (p.1, fin n M p.2))
  | a => a
section
variable {C : Cm} {i j : Ix} {M M' : AH} {H H' : Hp}
theorem VRs.fin (hn : M.objs.length ≤ M'.objs.length) (s : Sim C.K C.tb j M' H') : ∀ {vs : List V} {as : List AV}, VRs C.K j H' vs as → cls M.objs.length (as.map (Mx.fin M.objs.length M')) = true → VRs C.K (j.cut M.objs.length) H' vs (as.map (Mx.fin M.objs.length M'))
  | _, _, .nil, _ => .nil
  | _, _, .cons r t, h => by
    rw [List.map_cons, cls, Bool.and_eq_true] at h
    exact .cons (fin_vr hn s r h.1) (VRs.fin hn s t h.2)
theorem VRk.fin (hn : M.objs.length ≤ M'.objs.length) (s : Sim C.K C.tb j M' H') : ∀ {vs : List (Key × V)} {as : List (Key × AV)}, VRk C.K j H' vs as → clk M.objs.length (as.map fun p => (p.1, Mx.fin M.objs.length M' p.2)) = true → VRk C.K (j.cut M.objs.length) H' vs (as.map fun p => (p.1, Mx.fin M.objs.length M' p.2))
  | _, _, .nil, _ => .nil
  | _, _, .cons r t, h => by
    rw [List.map_cons, clk, Bool.and_eq_true] at h
    exact .cons (fin_vr hn s r h.1) (VRk.fin hn s t h.2)
theorem VRt.fin (hn : M.objs.length ≤ M'.objs.length) (s : Sim C.K C.tb j M' H') : ∀ {vs : List (List Key × V)} {as : List (List Key × AV)}, VRt C.K j H' vs as → clt M.objs.length (as.map fun p => (p.1, Mx.fin M.objs.length M' p.2)) = true → VRt C.K (j.cut M.objs.length) H' vs (as.map fun p => (p.1, Mx.fin M.objs.length M' p.2))
  | _, _, .nil, _ => .nil
  | _, _, .cons r t, h => by
    rw [List.map_cons, clt, Bool.and_eq_true] at h
    exact .cons (fin_vr hn s r h.1) (VRt.fin hn s t h.2)
theorem OR.fin {a : Addr} {fr : Prop} {c : AV} (hn : M.objs.length ≤ M'.objs.length) (s : Sim C.K C.tb j M' H') (h : OR C.K j H' a fr c) (hc : Mx.cl M.objs.length (finO M.objs.length M' c) = true) : OR C.K (j.cut M.objs.length) H' a fr (finO M.objs.length M' c) := by
  cases h with
  | lst h1 h2 => exact .lst h1 (VRs.fin hn s h2 (by simpa [finO, Mx.cl] using hc))
  | dK h1 h2 => exact .dK h1 (VRk.fin hn s h2 (by simpa [finO, Mx.cl] using hc))
  | dT h1 h2 => exact .dT h1 (VRt.fin hn s h2 (by simpa [finO, Mx.cl] using hc))
end
end Mx




namespace Mx
open PySem hiding Env
open L2 L2.DX PySem.Spec PyProof.Rows PySem.W
def dropA (kvs : List (List Key × AV)) (k : List Key) : List (List Key × AV) := kvs.filter fun kv => decide (kv.1 ≠ k)
theorem VRt.drop {K : PySem.W.Frag} {i : Ix} {H : Hp} {k : List Key} : ∀ {us : List (List Key × V)} {as : List (List Key × AV)}, VRt K i H us as → VRt K i H (dropK us k) (dropA as k)
  | _, _, .nil => .nil
  | _, _, .cons (k := k0) (v := v0) (us := us) (a := a0) (as := as) r t => by
    have ih := VRt.drop (k := k) t
    unfold dropK dropA at ih ⊢
    by_cases e : k0 = k
    · rw [List.filter_cons_of_neg (by simp [e]), List.filter_cons_of_neg (by simp [e])]
      exact ih
    · rw [List.filter_cons_of_pos (by simp [e]), List.filter_cons_of_pos (by simp [e])]
      exact .cons r ih
end Mx


namespace Mx
open PySem PySem.Spec PyProof.Rows L2
def Grew (P : Addr) (q : Str) (H H1 : Hp) : Prop := H1 = H ∨ ∃ (ps more : Array Value) (c : Addr), H P = some (.tbl ps) ∧ H c = none ∧ H1 = upd (upd H P (.tbl (ps ++ more))) c (LamX.CodeO c q)
theorem Grew.keep {P a : Addr} {q : Str} {H H1 : Hp} {u : HO} (g : Grew P q H H1) (h : H a = some u) (hu : ∀ ps, u ≠ .tbl ps) : H1 a = some u := by
  rcases g with rfl | ⟨ps, more, c, hP, hc, rfl⟩
  · exact h
  · rw [upd_ne (fun z => by rw [z, hc] at h; cases h), upd_ne (fun z => by rw [z, hP] at h; exact hu ps (Option.some.inj h).symm)]
    exact h
theorem Grew.rd {P a : Addr} {q : Str} {H H1 : Hp} {u : HO} (g : Grew P q H H1) (h : Rd H a u) (hu : ∀ ps, u ≠ .tbl ps) : Rd H1 a u := by
  rcases h with h | ⟨o, h⟩
  · exact .inl (g.keep h hu)
  · exact .inr ⟨o, g.keep h fun _ z => by cases z⟩
theorem Grew.back {P a : Addr} {q : Str} {H H1 : Hp} (g : Grew P q H H1) (h : H1 a = none) : H a = none := by
  rcases g with rfl | ⟨ps, more, c, hP, hc, rfl⟩
  · exact h
  · by_cases z : a = c
    · rw [z]; exact hc
    · rw [upd_ne z] at h
      by_cases y : a = P
      · rw [y, upd_same] at h; cases h
      · rw [upd_ne y] at h; exact h
theorem Grew.ext {i : Ix} {P : Addr} {q : Str} {H H1 : Hp} (g : Grew P q H H1) (ht : i.tab = [(P, q)]) (T1 : LamX.Tabs [(P, q)] H1) : Ext i i H H1 :=
  ⟨⟨[], by simp⟩, fun _ h => h, fun a h n => absurd (Or.inr h) n, fun a h n => absurd h n, fun a u hu _ h => g.keep h hu, (fun a o u h => g.keep h (fun _ z => (by cases z))), rfl, (fun _ => by rw [ht]; exact T1), (fun a ps _ h z => by rw [g.back z] at h; cases h)⟩
theorem Grew.same {K : PySem.W.Frag} {T : List (Addr × Str)} {i : Ix} {M : AH} {P a : Addr} {q : Str} {H H1 : Hp} (g : Grew P q H H1) (s : Sim K T i M H) (h : a ∈ i) : H1 a = H a := by
  rcases g with rfl | ⟨ps, more, c, hP, hc, rfl⟩
  · rfl
  · have n1 : a ≠ c := fun z => s.dom h (by rw [z]; exact hc)
    have n2 : a ≠ P := fun z => by
      subst z
      rcases h with h | h
      · obtain ⟨n, hn, e⟩ := List.mem_iff_getElem.mp h
        obtain ⟨d, _, o⟩ := s.get (n := n) (a := a) (by rw [List.getElem?_eq_getElem hn, e])
        exact (o.notb _ hP).1 ps rfl
      · exact (s.npv a h _ hP).1 ps rfl
    rw [upd_ne n1, upd_ne n2]
end Mx

namespace Mx
open PySem
open PySem L2
section
variable {P : Program} {w : World} {K : PySem.W.Frag} {mg : Str → Option Value} {base : Heap} {k : Nat} {f : Addr} {fd : FuncData} {ps : List Str} {sp sp' : Sp}
open PyProof.Rows in
theorem gn_ofC {x qual : Str} {st : Stmt} {N : List Str} (F : Fun K x qual st f fd) (S : FnScope N ps (defScope st)) (len : ∀ vs H Q E, sp vs H Q E → vs.length = ps.length)
    (body : ∀ (cdv : Value), fd.code = cdv → ∀ (A : Around) (outer : List PySem.Env) (s : Shared) (H : Hp) (vs : List V) (Q : VK) (E : XK), A.guards = some [] → Room k (A.deeper (envOfC qual (defScope st) s.heap.objs.size f cdv)) → sp vs H Q E →
      ∃ t, PSs (cxOf (L2.CX P w) P w K mg base N qual (defScope st) f cdv A outer s H E) (defBody st) t ∧ t { nx := fun _ H' => Q .non H', rt := Q } (L2.start N vs) H) : GnOk P w K mg base (k + 1) f fd ps sp := by
  obtain ⟨oc, od, kV, doc, pm, an, cdv, ct, osl, rfl, lk, hcode⟩ := F.ex
  constructor
  · exact len
  intro A outer s H args us vs Q E g room ent bind rel want
  have stays : ∀ b o, base.get? b = some o → s.heap.get? b = some o := fun b o q => (ent.bs b o q).1
  have inK : K.In s.heap := ent.mod.kin.keeps stays
  have kinds : ∀ y ∈ ps.zip us, (defScope st).names.lookup y.1 = some .local ∨ ((defScope st).names.lookup y.1 = some .cell ∧ ((cellsFrom (s.heap.objs.size + 1) (defScope st).names []).lookup y.1).isSome = true) := by
    rintro ⟨nm, vv⟩ hy
    cases S.par nm (List.of_mem_zip hy).1 with
    | inl q => exact .inl q
    | inr q => exact .inr ⟨q, PySem.W.cellsFrom_some _ _ _ (.inl q)⟩
  apply codeAny_call_function room.depth (inK _ _ lk) rfl S.co S.gen rfl (PySem.W.codeRec_of inK hcode) (bind _ _ _ _ _)
  apply wpAny_newFunctionEnv_cells S.kind kinds
  intro env he s1 x
  subst he
  constructor
  · exact (ent.mod.nolimit.keeps stays).keeps x.toInCall.keep
  apply codeAny_func
  obtain ⟨t, ht, hq⟩ := body cdv rfl A outer s H vs Q E g (room.deeper _) want
  have J := inv_start (CX := L2.CX P w) (P := P) (w := w) (K := K) (mg := mg) (base := base) (cd := cdv) (E := E) S room.hd ent (len _ _ _ _ want) rel x
  apply wpAny_mono (ht.run [] s1 (L2.start N vs) H _ J hq)
  · intro fl s' hs
    cases fl with
    | next =>
      obtain ⟨_, H', J', q⟩ := hs
      exact ⟨.non, H', J'.os, J'.bare, J'.base, J'.hok, rfl, q⟩
    | ret u =>
      obtain ⟨v, _, H', J', rv, q⟩ := hs
      exact ⟨v, H', J'.os, J'.bare, J'.base, J'.hok, rv, q⟩
    | brk =>
      obtain ⟨_, _, _, q⟩ := hs
      exact q.elim
    | cont =>
      obtain ⟨_, _, _, q⟩ := hs
      exact q.elim
  · exact fun e s' hs => hs
end
section
variable {P : Program} {w : World} {K : PySem.W.Frag} {mg : Str → Option Value} {base : Heap}
theorem fn_okC {x qual : Str} {st : Stmt} {f : Addr} {fd : FuncData} {N ps : List Str} {k n e : Nat} {body : SM} (F : Fun K x qual st f fd) (S : FnScope N ps (defScope st)) (hn : ps.length = n) (he : N.length = n + e)
    (hb : ∀ (cdv : Value), fd.code = cdv → ∀ (A : Around) (outer : List PySem.Env) (s : Shared) (H : Hp) (E : XK), At (cxOf (L2.CX P w) P w K mg base N qual (defScope st) f cdv A outer s H E) (fun cls d _ H => E cls d H) k →
      PSs (cxOf (L2.CX P w) P w K mg base N qual (defScope st) f cdv A outer s H E) (defBody st) (tS ⟨K, mg⟩ (fun cls d _ H => E cls d H) body)) : GnOk P w K mg base (k + 1) f fd ps (spM ⟨K, mg⟩ (gc (mDef n e body))) := by
  refine GnOk.imp (sp := spM ⟨K, mg⟩ (mDef n e body)) ?_ fun vs H Q E ⟨i, M, as, s, r, p⟩ => ⟨i, M, as, s, r, p.gc s⟩
  refine gn_ofC F S (fun vs H Q E h => ?_) (fun cdv hcd A outer s H vs Q E g hr h => ⟨_, hb cdv hcd A outer s H E ⟨hr, g, takes_of rfl rfl rfl rfl, passes_of rfl⟩, ?_⟩)
  · obtain ⟨i, M, as, s, r, p⟩ := h
    rw [r.len, hn]
    unfold mDef at p
    by_cases hl : as.length = n
    · exact hl
    · rw [if_neg hl] at p
      exact False.elim p
  · obtain ⟨i, M, as, s, r, p⟩ := h
    unfold mDef at p
    by_cases hl : as.length = n
    · rw [if_pos hl] at p
      refine ⟨i, _, M, s, er_start r (by rw [hl]; exact he), ?_⟩
      cases q : body (as.map some ++ List.replicate e none) M with
      | ret a M' =>
        rw [q] at p
        exact p
      | next G M' =>
        rw [q] at p
        exact fun σ j H' ee s' r' => p .non j H' ee s' .non
      | exc c fs G M' =>
        rw [q] at p
        exact fun cls d σ j H' ee s' r' x => p cls d j H' ee s' x
      | brk G M' =>
        rw [q] at p
        exact False.elim p
      | cnt G M' =>
        rw [q] at p
        exact False.elim p
      | stuck =>
        rw [q] at p
        exact False.elim p
    · rw [if_neg hl] at p
      exact False.elim p
end
section
open PyProof.Rows
theorem tb_of {K : PySem.W.Frag} {h : Heap} {mg : Str → Option Value} {x : Str} {c P : Addr} (X : K.In h) (G : h.Ns mainGlobals mg) (ht : PySem.W.tabIn K x = some (c, P)) : tbOne ⟨K, mg⟩ x = [(P, (x ++ ".<locals>.") ++ "<lambda>")] := by
  unfold PySem.W.tabIn at ht
  split at ht
  · rename_i f hf
    have e1 := PySem.W.mg_of X G hf
    split at ht
    · rename_i k1
      split at ht
      · rename_i c2 k2
        split at ht
        · rename_i k3
          split at ht
          · rename_i P2 k4
            cases ht
            unfold tbOne
            simp only [e1, k1, k2, k3, k4]
          · cases ht
        · cases ht
      · cases ht
    · cases ht
  · cases ht
theorem code_of {K : PySem.W.Frag} {h : Heap} {mg : Str → Option Value} {x : Str} {c P f : Addr} {oc : Value} {od : Option Addr} {fd : FuncData} {osl : Array (Option Value)} (X : K.In h) (G : h.Ns mainGlobals mg) (ht : PySem.W.tabIn K x = some (c, P))
    (hm : mg x = some (.ref f)) (lk : K.lookup f = some ⟨oc, od, .func fd, osl⟩) : fd.code = .ref c := by
  unfold PySem.W.tabIn at ht
  split at ht
  · rename_i f hf
    have e1 := PySem.W.mg_of X G hf
    rw [e1] at hm
    cases hm
    rw [lk] at ht
    dsimp only at ht
    split at ht
    · rename_i c2 k2
      split at ht
      · split at ht
        · cases ht
          exact k2
        · cases ht
      · cases ht
    · cases ht
  · cases ht
variable {P : Program} {w : World} {K : PySem.W.Frag} {mg mb : Str → Option Value} {k : Nat} {fa a : Addr} {cs : List (Addr × Addr)} {fd : FuncData} {x : Str} {m : List AV → AH → Res AV} {s : Shared} {vs : List Value} {ns : List Int}
theorem law_runT (hK : K.In s.heap) (hns : s.heap.Ns mainGlobals mg) (hb : s.heap.Ns builtinsNs mb) (hbb : ∀ y : Str, y ≠ "__name__" → mb y = bootBuiltins y) (hlim : s.heap.NoLimit) (hg : s.gens = #[])
    (hbm : ∃ (bm : Addr) (ob : Obj), mg "__builtins__" = some (.ref bm) ∧ bm ≠ builtinsNs ∧ s.heap.get? bm = some ob ∧ ob.cls = .type "module" ∧ ob.dict = some builtinsNs ∧ ob.data = .plain)
    (tab : ∀ p ∈ cs, s.heap.get? p.2 = some (PySem.W.tabObj #[])) (ntab : ∀ p ∈ cs, K.lookup p.2 = none) (cod : ∀ p ∈ cs, PySem.W.CodeHd s.heap p.1 p.2) (htb : ∀ p ∈ Cm.tb ⟨K, mg⟩, p.1 ∈ cs.map (·.2))
    (ha : s.heap.get? a = some { cls := .type "list", data := .seq vs.toArray }) (hi : IntsAre vs ns) (hl : ns.length ≤ 63) (room : Room k callerA) (lawok : LawOk m)
    (F : ∀ base : Heap, K.In base → base.Ns mainGlobals mg → (∀ p ∈ cs, LamX.TabB base mg p.1 p.2) → GnOk P w K mg base k fa fd [x] (spM ⟨K, mg⟩ m)) (hbind : ∀ (s : Shared) (u : Value), BindsTo s fd ⟨[u], []⟩ [(x, u)]) :
    codeAny (model P w) callerA (.call (.ref fa) ⟨[.ref a], []⟩) (fun r s' => r = .ok (.ret (.bool true)) ∧ OldK s.heap s'.heap ∧ s'.os = s.os ∧ AllBare s'.gens) s := by
  have hsz : ns.length ≤ sizeLine := Nat.le_trans hl (by decide)
  have isT : ∀ b : Addr, b ∈ cs.map (·.2) → s.heap.get? b = some (PySem.W.tabObj #[]) := fun b hb => by
    obtain ⟨p, hp, e⟩ := List.mem_map.mp hb
    rw [← e]
    exact tab p hp
  have noT : ∀ b : Addr, b ∈ cs.map (·.2) → K.lookup b = none := fun b hb => by
    obtain ⟨p, hp, e⟩ := List.mem_map.mp hb
    rw [← e]
    exact ntab p hp
  have aP : a ∉ cs.map (·.2) := fun z => by
    have z := isT a z
    rw [z] at ha
    cases ha
  have main : ∀ H : Hp, (∀ b ∈ cs.map (·.2), H b = some (.tbl #[])) → (∀ b, b ∉ cs.map (·.2) → H b = none ∨ (b = a ∧ K.lookup a = none ∧ H b = some (.frz { cls := .type "list", data := .seq vs.toArray } (.lst (ns.map V.int))))) → SqL K H a (ns.map V.int) → HOk P w H s.heap →
      codeAny (model P w) callerA (.call (.ref fa) ⟨[.ref a], []⟩) (fun r s' => r = .ok (.ret (.bool true)) ∧ OldK s.heap s'.heap ∧ s'.os = s.os ∧ AllBare s'.gens) s := by
    intro H atP only hq hok
    have there : ∀ b o, s.heap.get? b = some o → (∀ vs n, o.data ≠ .seq vs n) → o.data ≠ .fields #[] → H b = none := fun b o e n1 n2 => by
      by_cases hb : b ∈ cs.map (·.2)
      · rw [isT b hb] at e
        cases e
        exact absurd rfl n2
      · rcases only b hb with z | ⟨z, _, _⟩
        · exact z
        · rw [z, ha] at e
          cases e
          exact absurd rfl (n1 _ _)
    have dic : ∀ b o es ep, s.heap.get? b = some o → o.data = .dict es ep → H b = none := fun b o es ep e d => there b o e (fun _ _ z => by rw [d] at z; cases z) (fun z => by rw [d] at z; cases z)
    have ns_ : ∀ {b : Addr} {n : Str → Option Value}, s.heap.Ns b n → (hidT s.heap H).Ns b n := by
      rintro b n ⟨o, es, ep, e, d, r⟩
      exact ⟨o, es, ep, hidT_get e (dic b o es ep e d), d, r⟩
    have kin : K.In (hidT s.heap H) := by
      intro b o e
      by_cases hb : b ∈ cs.map (·.2)
      · rw [noT b hb] at e
        cases e
      · rcases only b hb with z | ⟨z, z', _⟩
        · exact hidT_get (hK b o e) z
        · rw [z, z'] at e
          cases e
    have md : Mod K mg (hidT s.heap H) := by
      obtain ⟨mc, l1, l2⟩ := hlim
      exact ⟨kin, ns_ hns, ⟨mb, ns_ hb, hbb⟩, mc, ns_ l1, l2⟩
    have tB : ∀ p ∈ cs, LamX.TabB (hidT s.heap H) mg p.1 p.2 := fun p hp => by
      have tp := tab p hp
      refine ⟨?_, ?_, fun z => ?_⟩
      · obtain ⟨o, us, file, tf, flags, tg, inF, text, tt, e1, r1, r2, r3, r⟩ := cod p hp
        refine ⟨o, us, file, tf, flags, tg, inF, text, tt, hidT_get e1 (there p.1 o e1 (fun _ _ z => by rw [r2] at z; cases z) fun z => ?_), r1, r2, r3, r⟩
        rw [r2] at z
        cases z
        simp at r3
      · obtain ⟨bm, ob, b1, b2, b3, b4, b5, b6⟩ := hbm
        refine ⟨bm, ob, b1, b2, fun z => ?_, fun z => ?_, hidT_get b3 (there bm ob b3 (fun _ _ z => by rw [b6] at z; cases z) fun z => by rw [b6] at z; cases z), b4, b5, b6⟩
        · obtain ⟨o, es, ep, e, hd, _⟩ := hns
          rw [z, e] at b3
          cases b3
          rw [hd] at b6
          cases b6
        · rw [z, tp] at b3
          cases b3
          cases b6
      · obtain ⟨o, es, ep, e, hd, _⟩ := hns
        rw [z, tp] at e
        cases e
        cases hd
    have en : Env0 P w K mg (hidT s.heap H) callerA [] s H := ⟨rfl, md, fun b o e => of_hidT e, Nat.le_of_eq (hidT_size _ _), trivial, (fun b hb => nomatch hb), hok, .of_eq hg⟩
    have ht : LamX.Tabs (Cm.tb ⟨K, mg⟩) H := fun p hp => LamX.TabS.nil (atP _ (htb p hp))
    apply codeAny_mono ((F _ kin (ns_ hns) tB).go callerA [] s H ⟨[.ref a], []⟩ [.ref a] [.ref a] _ (fun _ _ _ => False) rfl room en (hbind s (.ref a)) (.cons rfl .nil) (law_sp lawok hl hq ht))
    intro r s' h
    match r, h with
    | .error e, h =>
      obtain ⟨_, _, _, _, _, _, _, _, _, _, _, _, z⟩ := h
      exact z.elim
    | .ok (.ret u), h =>
      obtain ⟨v, H', os, bare, un, hok', rv, q⟩ := h
      have q' : v = .bl true := q
      subst q'
      have hu : u = Value.bool true := rv
      subst hu
      have key : ∀ b o, b ∉ cs.map (·.2) → s.heap.get? b = some o → s'.heap.get? b = some o := fun b o nb e => by
        rcases only b nb with z | ⟨_, _, z⟩
        · exact un.keep b o e z (fun q => nomatch q) (fun q => nomatch q)
        · have z1 := (hok b _ z).1
          have z2 := (hok' b _ (un.frzs b _ _ z)).1
          rw [e] at z1
          cases z1
          exact z2
      have grown : ∀ b ∈ cs.map (·.2), ∃ more : Array Value, s'.heap.get? b = some (PySem.W.tabObj more) := fun b hb => by
        obtain ⟨more, z⟩ := un.tbls b #[] (atP b hb)
        exact ⟨_, hok' b _ z⟩
      refine ⟨rfl, ⟨fun b o e => ?_, fun b o e => ?_⟩, os, bare⟩
      · by_cases hb : b ∈ cs.map (·.2)
        · obtain ⟨more, gr⟩ := grown b hb
          obtain ⟨p, hp, ep⟩ := List.mem_map.mp hb
          rw [← ep] at e gr ⊢
          rw [tab p hp] at e
          cases e
          exact .inr (.inl ⟨((cod p hp).tab (tab p hp)).isCodeTable, rfl, #[], more, rfl, by rw [Array.empty_append]; exact gr⟩)
        · exact .inl (key b o hb e)
      · by_cases hb : b ∈ cs.map (·.2)
        · obtain ⟨more, gr⟩ := grown b hb
          exact ⟨_, gr⟩
        · exact ⟨o, key b o hb e⟩
  have rel := vals_ints hi
  cases look : K.lookup a with
  | some o =>
    have e := hK a o look
    rw [ha] at e
    cases e
    refine main (fun b => if b ∈ cs.map (·.2) then some (.tbl #[]) else none) (fun b hb => if_pos hb) (fun b hb => .inl (if_neg hb)) (.inr ⟨_, vs.toArray, _, look, rfl, rfl, rfl, by rw [List.size_toArray, hi.length]; exact hsz, by simpa using rel⟩) fun b u z => ?_
    by_cases hb : b ∈ cs.map (·.2)
    · have z' := (if_pos hb).symm.trans z
      cases z'
      exact isT b hb
    · have z' := (if_neg hb).symm.trans z
      cases z'
  | none =>
    refine main (fun b => if b ∈ cs.map (·.2) then some (.tbl #[]) else if b = a then some (.frz { cls := .type "list", data := .seq vs.toArray } (.lst (ns.map V.int))) else none) (fun b hb => if_pos hb) (fun b hb => ?_) (.inl (.inr ⟨_, (if_neg aP).trans (if_pos rfl)⟩)) fun b u z => ?_
    · by_cases h : b = a
      · exact .inr ⟨h, look, (if_neg hb).trans (if_pos h)⟩
      · exact .inl ((if_neg hb).trans (if_neg h))
    · by_cases hb : b ∈ cs.map (·.2)
      · have z' := (if_pos hb).symm.trans z
        cases z'
        exact isT b hb
      · have z := (if_neg hb).symm.trans z
        by_cases h : b = a
        · subst h
          have z' := (if_pos rfl).symm.trans z
          cases z'
          exact ⟨ha, by rw [List.length_map]; exact hsz, vs, _, rel, ha⟩
        · have z' := (if_neg h).symm.trans z
          cases z'
def TabsAt (K : PySem.W.Frag) (ts : List (Str × Addr × Addr)) : Prop := ts.map (·.1) = tbNames ∧ ∀ t ∈ ts, PySem.W.tabIn K t.1 = some t.2 ∧ K.lookup t.2.2 = none
theorem walk_mxT {l : PySem.W.OpenLaw} {q : Program} {loose : List Str} {XP : (Str → Option Value) → Heap → Prop} {YP : World → Heap → Prop} {d : DefRec} {K : Params → PySem.W.Frag}
    (hn : l.most = some 63) (hdf : d.params.defaults = []) (room : Room k callerA) (hrec : ∀ y ∈ tbNames, ((recsOf q).find? fun e => e.name == y).isSome = true) (hY : ∀ (w : World) (h : Heap), YP w h → (K w.params).In h) (lawok : LawOk m)
    (F : ∀ (w : World) (mg : Str → Option Value) (fa : Addr) (h : Heap), (K w.params).In h → h.Ns mainGlobals mg → mg d.name = some (.ref fa) →
      ∃ (fd : FuncData) (ts : List (Str × Addr × Addr)), TabsAt (K w.params) ts ∧ (∀ (s : Shared) (u : Value), BindsTo s fd ⟨[u], []⟩ [(x, u)]) ∧
        ∀ base : Heap, (K w.params).In base → base.Ns mainGlobals mg → (∀ t ∈ ts, LamX.TabB base mg t.2.1 t.2.2) → Cm.tb ⟨K w.params, mg⟩ = ts.map (fun t => (t.2.2, ((t.1 ++ (".<locals>." : Str)) ++ ("<lambda>" : Str) : Str))) → GnOk l.prog w (K w.params) mg base k fa fd [x] (spM ⟨K w.params, mg⟩ m)) :
    PySem.W.WalkO q loose XP YP l.row.toRowW d [] (fun f vs => PySem.call f vs) := by
  apply Att.attach_call hn hdf
  intro w s0 s1 mg mb fa o pm cd doc a vs ns G Y ho hd hcd hmg hobj hints hlen hg
  have kx := hY w _ Y
  obtain ⟨fd, ts, ⟨tn, ta⟩, hb, hF⟩ := F w mg fa _ kx G.T.g hmg
  have each : ∀ t ∈ ts, PySem.W.CodeHd s1.heap t.2.1 t.2.2 ∧ s1.heap.get? t.2.2 = some (PySem.W.tabObj #[]) := fun t ht => by
    obtain ⟨dd, hdd⟩ := Option.isSome_iff_exists.mp (hrec t.1 (by rw [← tn]; exact List.mem_map.mpr ⟨t, ht, rfl⟩))
    have t1 := (ta t ht).1
    exact PySem.W.tab_of G.T kx hdd (c := t.2.1) (P := t.2.2) t1
  have tb : Cm.tb ⟨K w.params, mg⟩ = ts.map (fun t => (t.2.2, ((t.1 ++ (".<locals>." : Str)) ++ ("<lambda>" : Str) : Str))) := by
    unfold Cm.tb
    rw [← tn]
    clear tn hF each
    induction ts with
    | nil => rfl
    | cons t r ih =>
      rw [List.map_cons, List.flatMap_cons, ih fun u hu => ta u (List.mem_cons_of_mem _ hu), tb_of (c := t.2.1) (P := t.2.2) kx G.T.g (ta t (List.mem_cons_self ..)).1]
      rfl
  refine law_runT (cs := ts.map (·.2)) kx G.T.g G.T.b G.T.builtins G.T.nolimit hg G.T.bmain (fun p hp => ?_) (fun p hp => ?_) (fun p hp => ?_) (fun p hp => ?_) hobj hints hlen room lawok (fun base k1 k2 k3 => hF base k1 k2 (fun t ht => k3 _ (List.mem_map.mpr ⟨t, ht, rfl⟩)) tb) hb
  · obtain ⟨t, ht, rfl⟩ := List.mem_map.mp hp
    exact (each t ht).2
  · obtain ⟨t, ht, rfl⟩ := List.mem_map.mp hp
    exact (ta t ht).2
  · obtain ⟨t, ht, rfl⟩ := List.mem_map.mp hp
    exact (each t ht).1
  · rw [tb] at hp
    obtain ⟨t, ht, rfl⟩ := List.mem_map.mp hp
    exact List.mem_map.mpr ⟨t.2, List.mem_map.mpr ⟨t, ht, rfl⟩, rfl⟩
end
end Mx

namespace Mx
open PySem L2 PySem.Calls PySem.Spec
section
variable {X : Cx} {pins : List (Addr × Obj)} {σ : L2.St} {H HZ : Hp} {s : Shared}
theorem lam_newF {T : List (Addr × Str)} {c P : Addr} {params : Arguments} {body : Expr} {scope : Scope} {pos : Pos} {E : Value → Shared → Prop} {Q : Value → Shared → Prop} (I : Inv X pins σ H s)
    (TB : LamX.TabB X.base X.mg c P) (hcode : X.env.code = .ref c) (hT : LamX.Tabs T H) (mem : (P, X.env.qual ++ "<lambda>") ∈ T) (hu : ∀ p ∈ T, p.1 = P → p.2 = X.env.qual ++ "<lambda>") (hdef : defaultsOf params X.env = ([], [])) (hfree : ∀ y ∈ scope.names, y.2 = .free → ∃ c, X.env.cells.lookup y.1 = some c)
    (h : ∀ (f c' : Addr) (pm ctv : Value) (H1 : Hp) (s' : Shared), Inv X pins σ H1 s' → Grew P (X.env.qual ++ "<lambda>") H H1 → LamX.Tabs T H1 →
      s'.heap.get? f = some (PySem.W.kla_obj "<lambda>" (X.env.qual ++ "<lambda>") params body scope (L2.cloFrom X.env.cells scope.names []) pm c' ctv) → H1 f = none → f ∉ frs X.stack → H1 c' = some (LamX.CodeO c' (X.env.qual ++ "<lambda>")) → Q (.ref f) s') :
    wpAny (model X.prog X.w) X.A (eval (.Lambda params body scope pos) X.env) Q E s := by
  obtain ⟨ps, tabH, trip, among⟩ := hT _ mem
  apply PySem.W.kla_eval hdef
  have tabS : s.heap.get? P = some (PySem.W.tabObj ps) := I.hok P _ tabH
  have blt := TB.bm.keeps I.bk
  have code := TB.code.keeps I.bk
  have glob := I.mod.glob.keeps I.bk
  have off : ∀ f : Addr, s.heap.objs.size ≤ f → f ∉ frs X.stack := fun f le z => by
    cases List.mem_cons.mp (I.stkSub _ z) with
    | inl e =>
      have lt := I.lt
      rw [← e] at lt
      exact absurd (Nat.lt_of_lt_of_le lt le) (Nat.lt_irrefl _)
    | inr e => exact I.nofs le e
  cases look : codeAmong pos ps.toList with
  | some cv =>
    obtain ⟨c0, rfl, known⟩ := among pos cv look
    refine PySem.W.kla_makeFunctionHit (mg := X.mg) (c := c) (P := P) (ps := ps) (L2.closure_ok hfree) I.ok.glob glob hcode code tabS trip look blt fun ctv h1 tk stay le => ?_
    have I1 := I.kept (t' := tk) (h' := h1.push (PySem.W.kla_obj "<lambda>" (X.env.qual ++ "<lambda>") params body scope (L2.cloFrom X.env.cells scope.names []) ((X.mg "__name__").getD .none) c0 ctv)) fun b o e => Heap.get?_push_of_some _ (stay b o e)
    exact h h1.objs.size c0 _ ctv H _ I1 (.inl rfl) hT (Heap.get?_push_size _ rfl) (I.hok.fresh le) (off _ le) known
  | none =>
    refine PySem.W.kla_makeFunction (mg := X.mg) (c := c) (P := P) (ps := ps) (L2.closure_ok hfree) I.ok.glob glob hcode code tabS trip look TB.gP blt fun c0 ctv h1 tk stay le lt cr htb => ?_
    have free0 : H c0 = none := I.hok.fresh le
    obtain ⟨c2, oc, vs, t, e2, b1, b2, b3⟩ := cr
    cases e2
    have le1 : s.heap.objs.size ≤ h1.objs.size := Nat.le_trans le (Nat.le_of_lt lt)
    have I1 := LamX.inv_table (t' := tk) (more := #[rawInt pos.line, rawInt pos.col, .ref c0]) (h' := h1.push (PySem.W.kla_obj "<lambda>" (X.env.qual ++ "<lambda>") params body scope (L2.cloFrom X.env.cells scope.names []) ((X.mg "__name__").getD .none) c0 ctv)) I tabH
      (fun b o hb e => Heap.get?_push_of_some _ (stay b o hb e)) (Heap.get?_push_of_some _ htb) le ⟨oc, vs, t, Heap.get?_push_of_some _ b1, b2, b3⟩
    have neP : P ≠ c0 := fun z => by rw [z, free0] at tabH; cases tabH
    have nf0 : h1.objs.size ≠ c0 := Nat.ne_of_gt lt
    have nfP : h1.objs.size ≠ P := Nat.ne_of_gt (Nat.lt_of_lt_of_le (Heap.lt_size tabS) le1)
    refine h h1.objs.size c0 _ ctv _ _ I1 (.inr ⟨ps, _, c0, tabH, free0, rfl⟩) (fun p hp => ?_) (Heap.get?_push_size _ rfl) (by rw [upd_ne nf0, upd_ne nfP]; exact I.hok.fresh le1) (off _ le1) upd_same
    have eL : (ps ++ #[rawInt pos.line, rawInt pos.col, Value.ref c0]).toList = ps.toList ++ [rawInt pos.line, rawInt pos.col, .ref c0] := by simp
    have keepC : ∀ c1 : Addr, H c1 = some (LamX.CodeO c1 p.2) → upd (upd H P (.tbl (ps ++ #[rawInt pos.line, rawInt pos.col, .ref c0]))) c0 (LamX.CodeO c0 (X.env.qual ++ "<lambda>")) c1 = some (LamX.CodeO c1 p.2) := fun c1 e2 => by
      rw [upd_ne (fun q => by rw [q, free0] at e2; cases e2), upd_ne (fun q => by rw [q, tabH] at e2; cases e2)]
      exact e2
    by_cases hb : p.1 = P
    · have hq := hu p hp hb
      refine ⟨_, by rw [hb, upd_ne neP, upd_same], by rw [eL]; exact PySem.TriplesOk_snoc _ _ _ _ trip, fun p' cv hcv => ?_⟩
      rw [eL] at hcv
      rcases LamX.among_app _ trip hcv with z | z
      · obtain ⟨c1, e1, e2⟩ := among p' cv z
        refine ⟨c1, e1, keepC c1 ?_⟩
        rw [hq]
        exact e2
      · refine ⟨c0, z, ?_⟩
        rw [hq, upd_same]
    · obtain ⟨ps', a1, a2, a3⟩ := hT p hp
      refine ⟨ps', by rw [upd_ne (fun q => by rw [q, free0] at a1; cases a1), upd_ne hb]; exact a1, a2, fun p' cv hcv => ?_⟩
      obtain ⟨c1, e1, e2⟩ := a3 p' cv hcv
      exact ⟨c1, e1, keepC c1 e2⟩
end
def LamBody (X : Cx) (k : Nat) (scope : Scope) (body : Expr) (t : XK → TE) : Prop :=
  ∀ (A : Around) (outer : List PySem.Env) (s : Shared) (H : Hp) (E : XK) (f c' : Addr), A.guards = some [] → Room k (A.deeper (LamX.lamEnv X scope s.heap.objs.size f c')) → PE (LamX.lamCx X A outer s H E scope f c') body (t E)
section
open PyProof.Rows
variable {X : Cx} {pins : List (Addr × Obj)} {σ : L2.St} {H : Hp} {s : Shared}
theorem pe_actG {CXg : CXT} {Eg : XK} {Ng : List Str} {qg : Str} {sg : Scope} {g f c' : Addr} {cdg pm ctv : Value} {params : Arguments} {body : Expr} {scope : Scope} {k i : Nat} {a : Str} {pn : List (Addr × Obj)} {xe : Value → Shared → Prop} {W : WX} {t : XK → TE} {p1 p2 : Pos}
    (I : Inv X pins σ H s) (L : LamX.LamS X.env.scope scope) (hf : s.heap.get? f = some (PySem.W.kla_obj "<lambda>" (X.env.qual ++ "<lambda>") params body scope (L2.cloFrom X.env.cells scope.names []) pm c' ctv)) (hfn : H f = none) (hfr : f ∉ frs X.stack)
    (hbind : bindArgs (PySem.W.kla_fn "<lambda>" (X.env.qual ++ "<lambda>") params body scope (L2.cloFrom X.env.cells scope.names []) pm (.ref c') ctv) ⟨[], []⟩ = pure [])
    (tk : Takes ((cxOf CXg X.prog X.w X.K X.mg X.base Ng qg sg g cdg X.A X.stack s H Eg).tr pn xe) W) (hr : Room (k + 1) (X.A.deeper (envOfC qg sg s.heap.objs.size g cdg))) (hgd : X.A.guards = some [])
    (hbody : LamBody X k scope body t) (hN : Ng[i]? = some a) (hv : Vis sg a) (hd : (a == ("__debug__" : Str)) = false) (hcd : (a == ("__classdict__" : Str)) = false) :
    PE ((cxOf CXg X.prog X.w X.K X.mg X.base Ng qg sg g cdg X.A X.stack s H Eg).tr pn xe) (.Call (.Name a p1) [] [] p2)
      (fun σZ HZ Q => σZ[i]? = some (some (.ref f)) ∧ HZ c' = some (LamX.CodeO c' (X.env.qual ++ "<lambda>")) ∧ t (fun cls d H' => W cls d σZ H') σ HZ Q) := by
  constructor
  rintro pinsZ sZ σZ HZ Q IZ ⟨slot, code, want⟩
  have rd := (pe_var (pos := p1) (i := i) hN hv hd hcd).run pinsZ sZ σZ HZ (fun v H1 => v = .ref f ∧ H1 = HZ) IZ ⟨.ref f, slot, rfl, rfl⟩
  apply wpAny_Call_Name_kw
  refine thn rd ?_
  rintro u s1 ⟨v, H1, I1, r1, rfl, rfl⟩
  obtain rfl : u = Value.ref f := r1
  have here := I1.base.keep f _ hf hfn hfr (fun z => nomatch (show f ∈ ([] : List Addr) from z))
  have grown : Un (frs X.stack) [] H H1 s.heap s1.heap := I1.base
  obtain ⟨⟨oc, vs, tk1, k1, k2, k3⟩, _, _⟩ := I1.hok c' _ code
  apply PySem.W.callWith_F0 ⟨_, _, _, _, here⟩
  apply wpAny_call
  have inner : codeAny (model X.prog X.w) (X.A.deeper (envOfC qg sg s.heap.objs.size g cdg)) (.call (.ref f) ⟨[], []⟩) (CR (L2.CX X.prog X.w) (envOfC qg sg s.heap.objs.size g cdg :: X.stack) X.prog X.w H1 s1 Q (fun cls d H' => W cls d σZ H')) s1 := by
    apply PySem.W.kla_callFunE hr.depth here rfl L.co L.gen rfl ⟨c', oc, vs, tk1, rfl, k1, k2, k3⟩
    rw [hbind]
    apply wpAny_pure
    apply wpAny_newFunctionEnv (fun y hy => (L.own y hy).2) (fun y hy => absurd hy (by simp)) _ L.kind
    intro h₁ hns hsb
    refine ⟨I1.nolimit.fresh _ hsb, ?_⟩
    show codeAny _ _ (.expr body (LamX.lamEnv X scope s1.heap.objs.size f c')) _ _
    have kept : ∀ b o, s1.heap.get? b = some o → h₁.get? b = some o := fun b o e => hsb.extBut b o (Nat.ne_of_lt (Heap.lt_size e)) (Heap.get?_push_of_some _ e)
    have J := LamX.lam_start2 (A := X.A.deeper (envOfC qg sg s.heap.objs.size g cdg)) (outer := envOfC qg sg s.heap.objs.size g cdg :: X.stack) (E := fun cls d H' => W cls d σZ H') (f := f) (c' := c') (tk := s1.toks + ([] : List (Str × Value)).length) I L I1.env0 hr.hd grown hns kept
    have go := (hbody (X.A.deeper (envOfC qg sg s.heap.objs.size g cdg)) (envOfC qg sg s.heap.objs.size g cdg :: X.stack) s1 H1 (fun cls d H' => W cls d σZ H') f c' hgd (hr.deeper _)).run [] _ _ H1 Q J want
    refine PySem.W.kla_codeExpr (wpAny_mono go ?_ fun e s' hq => hq)
    rintro v s' ⟨w', H', J', rv, q⟩
    exact ⟨w', H', J'.os, J'.bare, J'.base, J'.hok, rv, q⟩
  refine codeAny_mono inner ?_
  intro r s' hq
  cases r with
  | error e => exact tk e s' (XE.of_call I1 (fun cls d H' h => h) hq)
  | ok fl =>
    cases fl with
    | ret u => exact I1.after hq
    | next => exact hq.elim
    | brk => exact hq.elim
    | cont => exact hq.elim
def GivesW (X : Cx) (Ng : List Str) (x : Str) (sg : Scope) (g : Addr) (cdg : Value) (bg : List Stmt) (a : Str) (q : Str) (TT : (XK → Hp → VK → Prop) → Hp → VK → Prop) : Prop :=
  ∀ (f c' : Addr) (s : Shared) (H : Hp) (Q : VK) (tl : XK → Hp → VK → Prop), Room 1 (X.A.deeper (envOfC x sg s.heap.objs.size g cdg)) →
    (∀ (W : WX) (pn : List (Addr × Obj)) (xe : Value → Shared → Prop) (p1 p2 : Pos), Takes ((cxOf C8.CX0 X.prog X.w X.K X.mg X.base Ng x sg g cdg X.A X.stack s H C8.E0).tr pn xe) W →
      PE ((cxOf C8.CX0 X.prog X.w X.K X.mg X.base Ng x sg g cdg X.A X.stack s H C8.E0).tr pn xe) (.Call (.Name a p1) [] [] p2) (fun σZ HZ Q => σZ[0]? = some (some (.ref f)) ∧ HZ c' = some (LamX.CodeO c' q) ∧ tl (fun cls d H' => W cls d σZ H') HZ Q)) →
    H c' = some (LamX.CodeO c' q) → TT tl H Q →
    ∃ t, PSs (cxOf C8.CX0 X.prog X.w X.K X.mg X.base Ng x sg g cdg X.A X.stack s H C8.E0).nox bg t ∧ t { nx := fun _ H' => Q .non H', rt := Q } (L2.start Ng [.ref f]) H
theorem pe_lamG {T : List (Addr × Str)} {TT : (XK → Hp → VK → Prop) → Hp → VK → Prop} {x a : Str} {g c P : Addr} {k : Nat} {pg : Arguments} {bg : List Stmt} {sg : Scope} {dV kV doc pm cdv ct oc : Value} {an od : Option Addr} {osl : Array (Option Value)} {Ng : List Str}
    {params : Arguments} {body : Expr} {scope : Scope} {t : XK → TE} {p lpos pos : Pos} (hg : Gl X x) (hm : X.mg x = some (.ref g)) (hk : PySem.W.keepIn X.K (.ref g) = true)
    (lk : X.K.lookup g = some ⟨oc, od, .func (PySem.W.fnOf x x pg bg sg dV kV doc pm an cdv ct), osl⟩) (hcg : PySem.W.codeIn X.K cdv x = true) (hb : L2.Binds X.K (PySem.W.fnOf x x pg bg sg dV kV doc pm an cdv ct) [a] []) (Sg : FnScope Ng [a] sg) (hNg : Ng[0]? = some a) (hva : Vis sg a)
    (hG : GivesW X Ng x sg g cdv bg a (X.env.qual ++ "<lambda>") TT)
    (mem : (P, X.env.qual ++ "<lambda>") ∈ T) (hu : ∀ p ∈ T, p.1 = P → p.2 = X.env.qual ++ "<lambda>") (TB : LamX.TabB X.base X.mg c P) (hcode : X.env.code = .ref c) (hgd : X.A.guards = some []) (hr : Room (k + 2) X.A) (L : LamX.LamS X.env.scope scope) (hdef : defaultsOf params X.env = ([], []))
    (hbind : ∀ (q : Str) (cl : List (Str × Addr)) (pm cv ctv : Value), bindArgs (PySem.W.kla_fn "<lambda>" q params body scope cl pm cv ctv) ⟨[], []⟩ = pure [])
    (hbody : LamBody X k scope body t) (hdb : (x == ("__debug__" : Str)) = false) (hd : (a == ("__debug__" : Str)) = false) (hcd : (a == ("__classdict__" : Str)) = false) :
    PE X (.Call (.Name x p) [.Lambda params body scope lpos] [] pos) (fun σ H Q => LamX.Tabs T H ∧ ∀ H1, Grew P (X.env.qual ++ "<lambda>") H H1 → LamX.Tabs T H1 → TT (fun E H' Q' => t E σ H' Q') H1 Q) := by
  constructor
  rintro pins s σ H Q I ⟨hT, want⟩
  apply wpAny_Call_Name_kw
  apply ld_glob I hg hm _ hdb
  apply PySem.W.callWith_K (h₀ := X.base) I.ok.mod.kin hk _ (by rfl) (by rfl)
  show wpAny _ _ (spliced ((false, eval (.Lambda params body scope lpos) X.env) :: backTo pos (starEach [] X.env))) _ _ s
  apply Calls.spliced_cons
  apply lam_newF I TB hcode hT mem hu hdef (L.has I.ok)
  intro f c' pm' ctv H1 s' I1 gw T1 hf hfn hfr hco
  refine Calls.spliced_nil ⟨I1.kIn, ?_⟩
  have rc : codeAny (model X.prog X.w) X.A (.call (.ref g) ⟨[.ref f], []⟩) (CR C8.CX0 X.stack X.prog X.w H1 s' Q C8.E0) s' := by
    apply LamX.run_ofS (N := Ng) (ps := [a]) (us := [.ref f]) (vs := [.ref f]) lk hcg Sg hr I1.env0 (hb s' [.ref f] I1.kIn rfl) (.cons rfl .nil) rfl
    intro hr'
    obtain ⟨t', ht', hq'⟩ := hG f c' s' H1 Q (fun E H' Q' => t E σ H' Q') (hr'.mono (Nat.le_add_left 1 _)) (fun W pn xe p1 p2 tk => pe_actG (i := 0) I1 L hf hfn hfr (hbind _ _ _ _ _) tk hr' hgd hbody hNg hva hd hcd) hco (want H1 gw T1)
    exact ⟨t', ht'.nox, hq'⟩
  apply wpAny_call
  refine codeAny_mono rc ?_
  intro r s2 hq
  cases r with
  | error e => exact (show False from hq).elim
  | ok fl =>
    cases fl with
    | ret u => exact I1.after hq
    | next => exact hq.elim
    | brk => exact hq.elim
    | cont => exact hq.elim
end
end Mx

namespace Mx
open PySem L2 PySem.Calls PySem.Spec PyProof.Rows
theorem Grew.extT {i : Ix} {P : Addr} {q : Str} {H H1 : Hp} (g : Grew P q H H1) (T1 : LamX.Tabs i.tab H1) : Ext i i H H1 :=
  ⟨⟨[], by simp⟩, fun _ h => h, fun a h n => absurd (Or.inr h) n, fun a h n => absurd h n, fun a u hu _ h => g.keep h hu, (fun a o u h => g.keep h (fun _ z => (by cases z))), rfl, (fun _ => T1), (fun a ps _ h z => by rw [g.back z] at h; cases h)⟩
def TTm (C : Cm) (mt : Res AV → Res AV) (tl : XK → Hp → VK → Prop) (H : Hp) (Q : VK) : Prop :=
  ∃ i M r, Sim C.K C.tb i M H ∧ (∀ H' Q' E, Ext i i H H' → Sim C.K C.tb i M H' → post C (RV C) i H' r Q' E → tl E H' Q') ∧ post C (RV C) i H (mt r) Q (fun _ _ _ => False)
theorem post.later {α β : Type} {C : Cm} {R : Ix → Hp → β → α → Prop} {i j : Ix} {H H2 : Hp} {r : Res α} {Q : β → Hp → Prop} {W : XK} (e : Ext i j H H2) (p : post C R i H r Q W) : post C R j H2 r Q W := by
  cases r with
  | ok a M => exact fun v k H3 e2 => p v k H3 (e.trans e2)
  | exc c fs M => exact fun cls d k H3 e2 => p cls d k H3 (e.trans e2)
  | stuck => exact p
def fin1 (n : Nat) (M : AH) : AV → AV
  | .tup xs => .tup (xs.map (fin n M))
  | a => fin n M a
open Classical in
noncomputable def gcT (r : Res AV) (M : AH) : Res AV := match r with
  | .ok a M' => if Clean M.objs.length M M' ∧ cl M.objs.length (fin1 M.objs.length M' a) = true then .ok (fin1 M.objs.length M' a) (M'.cut M.objs.length) else .ok a M'
  | .exc c fs M' => .exc c fs M'
  | .stuck => .stuck
section
variable {C : Cm} {i j : Ix} {M M' : AH} {H H' : Hp}
theorem fin1_vr {v : V} {a : AV} (hn : M.objs.length ≤ M'.objs.length) (s : Sim C.K C.tb j M' H') (r : VR C.K j H' v a) (hc : cl M.objs.length (fin1 M.objs.length M' a) = true) : VR C.K (j.cut M.objs.length) H' v (fin1 M.objs.length M' a) := by
  cases a with
  | tup xs =>
    cases r with
    | tup h1 h2 h3 =>
      have hc : cls M.objs.length (xs.map (Mx.fin M.objs.length M')) = true := hc
      exact .tup h1 (Ix.not_cut h2) (VRs.fin hn s h3 hc)
  | _ => exact fin_vr hn s r hc
theorem post.gcT {r : Res AV} {Q : VK} {W : XK} (s0 : Sim C.K C.tb i M H) (h : post C (RV C) i H (Mx.gcT r M) Q W) : post C (RV C) i H r Q W := by
  unfold Mx.gcT at h
  cases r with
  | ok a M' =>
    simp only at h
    split at h
    · rename_i hc
      intro v j H' ee s r
      obtain ⟨e1, s1, _⟩ := hc.1.sim s0 ee s
      exact h v _ H' e1 s1 (fin1_vr hc.1.2.1 s r hc.2)
    · exact h
  | exc c fs M' => exact h
  | stuck => exact h
end
def brR (tab : List (Str × Bool)) (mh : Str → List (Str × AV) → SM) (c : Str) (fs : List (Str × AV)) (M : AH) : Res AV := match tab.lookup c with
  | some true => (match mh c fs [none, some .non, none, none] M with
    | .next G M1 => (match G[1]? with
      | some (some v) => .ok v M1
      | _ => .stuck)
    | _ => .stuck)
  | _ => .stuck
noncomputable def toldR (tab : List (Str × Bool)) (mh : Str → List (Str × AV) → SM) (r : Res AV) : Res AV := match r with
  | .ok _ M => .ok .non M
  | .exc c fs M => gcT (brR tab mh c fs M) M
  | .stuck => .stuck
section
variable {X : Cx} {q : Nat} {a : Addr} {cls : Value} {d : Option Addr} {pos : Pos} {e o : Expr} {es : List Expr}
variable {m : Str → List (Str × AV) → EM} {n : Str → List (Str × AV) → AM}
theorem x_lstR (h : PA X es (xA (cm X) q a cls d n)) : PE X (.List es pos) (xE (cm X) q a cls d fun c fs => mLstR (n c fs)) := PE.imp (pe_lst h) fun σ H Q h => by
  have h1 := tX.bind (R := RVs (cm X)) (m := n) (f := fun c fs G as M1 => gLstR as M1) h
  exact tX.imp h1 fun xs H1 ⟨_, j, G, as, M, c, fs, s, r, xx, rr, p⟩ => c_lstR j M H1 xs as Q _ s rr p
theorem x_meth {name : Str} {apos cpos : Pos} {T id : String} {r : V → List V → Hp → VK → Prop} {ty : AH → AV → Bool} {g : AV → List AV → AH → Res AV} (pa : PlainAttrs T) (slot : Slot T name id) (hty : typeOf (.builtin id) = pure (.type "method_descriptor")) (hm : MtR X id r) (ht : TyOk (cm X) T ty) (hg : OpM (cm X) r g) (ho : PE X o (xE (cm X) q a cls d m)) (ha : PA X (e :: es) (xA (cm X) q a cls d n))
    (hbase : attributeBase o name X.env (eval o X.env) = eval o X.env := by rfl)
    (hfew : ((backTo cpos (starEach (e :: es) X.env)).all (fun x => !x.1) && (backToKw cpos (keywordEach [] X.env)).all (fun x => x.1.isSome)
      && decide ((e :: es).length + ([] : List Keyword).length + (if ([] : List Keyword).isEmpty then 0 else 1) < 30)) = true := by rfl)
    (hline : (apos.endLine == cpos.line) = true := by rfl) (hs : starEach (e :: es) X.env = (false, eval e X.env) :: starEach es X.env := by rfl) (hplain : (backTo cpos (starEach es X.env)).any (·.1) = false := by rfl) :
    PE X (.Call (.Attribute o name apos) (e :: es) [] cpos) (xE (cm X) q a cls d fun c fs => mMeth ty g (m c fs) (n c fs)) :=
  PE.imp (pe_bm pa slot hty hm ho ha hbase hfew hline hs hplain) fun σ H Q h => by
    have h1 := tX.bind (R := RV (cm X)) (m := m) (f := fun c fs G a M1 => if ty M1 a = true then (n c fs G M1).bind fun as M2 => g a as M2 else .stuck) h
    refine tX.imp h1 fun x H1 ⟨e0, j, G, b, M, c, fs, s, er, xx, rr, p⟩ => ?_
    obtain ⟨hc, p⟩ := post.need p
    refine ⟨ht j M H1 x b s rr hc, e0, j, G, M, c, fs, s, er, xx, (post.bind (R := RVs (cm X)) p).imp (fun xs H2 ⟨k, as, M2, e2, s2, rs, p2⟩ => ?_) fun _ _ _ z => z⟩
    exact hg k M2 H2 x xs b as Q _ s2 (rr.mono e2) rs p2
theorem x_expr (he : PE X e (xE (cm X) q a cls d m)) (hs : swapsWith e none pos.line X.env = pure false := by rfl) : PS X (.Expr e pos) (xS (cm X) q a cls d fun c fs => mExp (m c fs)) := PS.imp (ps_expr he hs) fun D σ H hh => by
  have h1 := xS.st (R := RV (cm X)) (m := m) (f := fun c fs G b M1 => SR.next G M1) hh
  exact tX.imp h1 fun v H1 ⟨e0, j, G, b, M, c, fs, s, r, x, rr, p⟩ => p σ j H1 Ext.refl s r e0
end
section
variable {X : Cx}
theorem gives_toldR {Ng : List Str} {x a v e l q cn : Str} {sg : Scope} {g CS : Addr} {cdg : Value} {tab : List (Str × Bool)} {mh : Str → List (Str × AV) → SM} {b₀ : Stmt} {suite : List Stmt} {j1 : Nat} {p1 p2 p5 p8 p9 p11 p12 p13 p14 p15 p16 : Pos}
    (hNg : Ng = [a, v, e, l]) (nd : Ng.Nodup) (hv : sg.names.lookup v = some .local) (he : sg.names.lookup e = some .local)
    (hdv : (v == ("__debug__" : Str)) = false) (hcv : (v == ("__classdict__" : Str)) = false)
    (hc : ∀ (s : Shared) (H : Hp), Names (cxOf C8.CX0 X.prog X.w X.K X.mg X.base Ng x sg g cdg X.A X.stack s H C8.E0).nox cn (.ref CS))
    (htab : ∀ y ∈ tab, ∃ D, X.mg y.1 = some (.ref D) ∧ PySem.W.exmOne X.K (.ref D) (.ref CS) = some y.2)
    (hsu : ∀ (s : Shared) (H : Hp) (a' : Addr) (oe : Obj) (cls : Value) (d : Option Addr) (pn : List (Addr × Obj)), Zc cls d oe → (∃ vs, oe.data = .fields vs) → Room 1 (X.A.deeper (envOfC x sg s.heap.objs.size g cdg)) → PSs ((cxOf C8.CX0 X.prog X.w X.K X.mg X.base Ng x sg g cdg X.A X.stack s H C8.E0).nox.suite a' ((a', oe) :: pn)) (b₀ :: suite) (xS (cm X) 2 a' cls d mh)) :
    GivesW X Ng x sg g cdg [.Assign [.Name v p1] (.Constant .none j1 p2) p5,
      .Try [.Expr (.Call (.Name a p8) [] [] p9) p11] [.ExceptHandler (some (.Name cn p12)) (some e) (b₀ :: suite) p13] [] [] p14,
      .Return (some (.Name v p15)) p16] a q (TTm (cm X) (toldR tab mh)) := by
  subst hNg
  rintro f c' s H Q tl hR act hco ⟨i, M, r, sm, htl, hp⟩
  have S1 := ps_set (X := (cxOf C8.CX0 X.prog X.w X.K X.mg X.base [a, v, e, l] x sg g cdg X.A X.stack s H C8.E0).nox) (i := 1) (x := v) (e := .Constant .none j1 p2) (pos := p5) (pos' := p1) nd rfl (Or.inl hv) (pe_non (j := j1) (pos := p2)) (by rfl) (Or.inr hv)
  have S3 := ps_ret (pos := p16) (pe_var (X := (cxOf C8.CX0 X.prog X.w X.K X.mg X.base [a, v, e, l] x sg g cdg X.A X.stack s H C8.E0).nox) (i := 1) (x := v) (pos := p15) rfl (Or.inl hv) hdv hcv)
  have S2 := ps_try_as (X := (cxOf C8.CX0 X.prog X.w X.K X.mg X.base [a, v, e, l] x sg g cdg X.A X.stack s H C8.E0).nox) (i := 2) (np := p12) (pos' := p13) (pos := p14) (body := [.Expr (.Call (.Name a p8) [] [] p9) p11]) (suite := suite) (b₀ := b₀)
    (tb := fun W D σ H => σ[0]? = some (some (.ref f)) ∧ H c' = some (LamX.CodeO c' q) ∧ tl (fun cls d H' => W cls d σ H') H (fun v H1 => D.nx σ H1))
    (ts := fun a' cls d => xS (cm X) 2 a' cls d mh) rfl rfl nd rfl he (hc s H) LamX.takes0 (fun W pn xe tk _ => by
      have P1 := ps_expr (pos := p11) (act W pn xe p8 p9 tk)
      refine pss_one (PS.imp P1 fun D σ H h => ?_)
      exact h) (fun a' oe cls d pn hz hf => hsu s H a' oe cls d pn hz hf hR)
  refine ⟨_, pss_cons S1 (pss_cons S2 (pss_one S3)), ?_⟩
  refine ⟨rfl, hco, htl _ _ _ Ext.refl sm ?_⟩
  cases r with
  | stuck => exact hp.elim
  | ok av M1 =>
    intro vv j H' ex sj rv
    show ∃ u, ((L2.start [a, v, e, l] [V.ref f]).set 1 (some V.non))[1]? = some (some u) ∧ Q u _
    refine ⟨.non, rfl, ?_⟩
    exact hp _ j _ ex sj .non
  | exc c2 fs M1 =>
    intro cls d j H' ex sj xr
    have hp : post (cm X) (RV (cm X)) i H (gcT (brR tab mh c2 fs M1) M1) Q (fun _ _ _ => False) := hp
    have hp := (post.later ex hp).gcT sj
    unfold brR at hp
    cases hl : tab.lookup c2 with
    | none => rw [hl] at hp; exact hp.elim
    | some bb =>
      obtain ⟨D', g1, g2⟩ := htab _ (look_mem hl)
      obtain ⟨A, y1, y2, _⟩ := id xr
      have eA : A = D' := by
        have ee : some (Value.ref A) = some (.ref D') := y1.symm.trans g1
        cases ee
        rfl
      subst eA
      refine ⟨bb, by rw [y2]; exact g2, fun hb a' ha => ?_, fun hb => ?_⟩
      · subst hb
        rw [hl] at hp
        simp only at hp
        have er : ER (cm X).K j H' (((L2.start [a, v, e, l] [V.ref f]).set 1 (some V.non)).set 2 (some (.ref a'))) [none, some .non, none, none] := by
          refine ⟨rfl, fun n b hb => ?_⟩
          match n, hb with
          | 1, hb =>
            cases hb
            exact ⟨.non, rfl, .non⟩
          | 0, hb => cases hb
          | 2, hb => cases hb
          | 3, hb => cases hb
          | n + 4, hb => simp at hb
        refine ⟨rfl, j, _, M1, c2, fs, sj, er, xr, ?_⟩
        cases e2 : mh c2 fs [none, some .non, none, none] M1 with
        | next G2 M2 =>
          rw [e2] at hp
          simp only at hp
          intro σ2 j2 H2 ee s2 r2 _
          cases e3 : G2[1]? with
          | none => rw [e3] at hp; exact hp.elim
          | some ou =>
            cases ou with
            | none => rw [e3] at hp; exact hp.elim
            | some u =>
              rw [e3] at hp
              obtain ⟨vv, q1, q2⟩ := r2.at' 1 u e3
              show ∃ u, (σ2.set 2 none)[1]? = some (some u) ∧ Q u _
              exact ⟨vv, by rw [List.getElem?_set_ne (by decide)]; exact q1, hp _ j2 _ ee s2 q2⟩
        | ret b M2 => rw [e2] at hp; exact hp.elim
        | brk G2 M2 => rw [e2] at hp; exact hp.elim
        | cnt G2 M2 => rw [e2] at hp; exact hp.elim
        | exc c3 fs2 G2 M2 => rw [e2] at hp; exact hp.elim
        | stuck => rw [e2] at hp; exact hp.elim
      · subst hb
        rw [hl] at hp
        exact hp.elim
theorem toldR_ne {tab : List (Str × Bool)} {mh : Str → List (Str × AV) → SM} (r : Res AV) (c : Str) (fs : List (Str × AV)) (M : AH) : toldR tab mh r ≠ .exc c fs M := by
  have br : ∀ c2 fs2 M2, brR tab mh c2 fs2 M2 ≠ .exc c fs M ∧ ∀ x y z, brR tab mh c2 fs2 M2 ≠ .exc x y z := fun c2 fs2 M2 => by
    have g : ∀ x y z, brR tab mh c2 fs2 M2 ≠ .exc x y z := fun x y z h => by
      unfold brR at h
      repeat' split at h
      all_goals cases h
    exact ⟨g _ _ _, g⟩
  cases r with
  | ok b M1 => intro h; cases h
  | stuck => intro h; cases h
  | exc c2 fs2 M1 =>
    intro h
    have h : gcT (brR tab mh c2 fs2 M1) M1 = .exc c fs M := h
    unfold gcT at h
    cases e : brR tab mh c2 fs2 M1 with
    | ok b M2 =>
      rw [e] at h
      simp only at h
      split at h <;> cases h
    | exc x y z => exact (br c2 fs2 M1).2 _ _ _ e
    | stuck =>
      rw [e] at h
      cases h
theorem e_lamm {W : WX} {x a : Str} {st : Stmt} {g c P : Addr} {fd : FuncData} {Ng : List Str} {k k2 : Nat} {params : Arguments} {body : Expr} {scope : Scope} {p lpos pos : Pos} {m : EM} {mt : Res AV → Res AV}
    (D : Dn X.K X.mg x st [a] g fd) (Sg : FnScope Ng [a] (defScope st)) (hNg : Ng[0]? = some a) (hva : Vis (defScope st) a) (hmt : ∀ r c fs M, mt r ≠ .exc c fs M)
    (hG : ∀ cdv, GivesW X Ng x (defScope st) g cdv (defBody st) a (X.env.qual ++ "<lambda>") (TTm (cm X) mt))
    (mem : (P, X.env.qual ++ "<lambda>") ∈ (cm X).tb) (hu : ∀ p ∈ (cm X).tb, p.1 = P → p.2 = X.env.qual ++ "<lambda>") (TB : LamX.TabB X.base X.mg c P) (hcode : X.env.code = .ref c) (T : At X W k2) (hk : k + 2 ≤ k2) (hg : Gl X x) (L : LamX.LamS X.env.scope scope) (hdef : defaultsOf params X.env = ([], []))
    (hbind : ∀ (q : Str) (cl : List (Str × Addr)) (pm cv ctv : Value), bindArgs (PySem.W.kla_fn "<lambda>" q params body scope cl pm cv ctv) ⟨[], []⟩ = pure [])
    (hbody : ∀ (A : Around) (outer : List PySem.Env) (s : Shared) (H : Hp) (E : XK) (f c' : Addr), At (LamX.lamCx X A outer s H E scope f c') (fun cls d _ H' => E cls d H') k → PE (LamX.lamCx X A outer s H E scope f c') body (tE (cm X) (fun cls d _ H' => E cls d H') m))
    (hdb : (x == ("__debug__" : Str)) = false) (hd : (a == ("__debug__" : Str)) = false) (hcd : (a == ("__classdict__" : Str)) = false) :
    PE X (.Call (.Name x p) [.Lambda params body scope lpos] [] pos) (tE (cm X) W (fun G M => mt (m G M))) := by
  obtain ⟨oc, od, kV, doc, pm, an, cdv, ct, osl, rfl, lk, hcg⟩ := D.F.ex
  have hb : LamBody X k scope body (fun E => tE (cm X) (fun cls d _ H' => E cls d H') m) := fun A outer s H E f c' hgd hr => hbody A outer s H E f c' ⟨hr, hgd, takes_of rfl rfl rfl rfl, passes_of rfl⟩
  refine PE.imp (pe_lamG hg D.g D.F.kp lk hcg D.b Sg hNg hva (hG cdv) mem hu TB hcode T.gd (T.room.mono hk) L hdef hbind hb hdb hd hcd) fun σ H Q h => ?_
  obtain ⟨i, G, M, s, r, q⟩ := h
  have tb : i.tab = (cm X).tb := s.ht
  refine ⟨by rw [← tb]; exact s.tbs, fun H1 gw T1 => ?_⟩
  have e1 : Ext i i H H1 := gw.extT (by rw [tb]; exact T1)
  have s1 : Sim (cm X).K (cm X).tb i M H1 := s.stay e1 fun a ha => gw.same s ha
  refine ⟨i, M, m G M, s1, fun H' Q' E ex sm' hp' => ⟨i, G, M, sm', (r.mono e1).mono ex, hp'⟩, ?_⟩
  have q : post (cm X) (RV (cm X)) i H (mt (m G M)) Q (fun c d H' => W c d σ H') := q
  cases e : mt (m G M) with
  | ok b M' =>
    rw [e] at q
    exact fun v j H' ex => q v j H' (e1.trans ex)
  | exc c2 fs M' => exact absurd e (hmt _ _ _ _)
  | stuck =>
    rw [e] at q
    exact q
end
end Mx

namespace Mx
open PySem hiding Env plain
open L2 PySem.W PySem.Spec PyProof.Rows StrLaws
section
variable {prog : Program} {w : World} {A : Around} {E : Value → Shared → Prop} {s : Shared}
theorem min_twoD {u v : Value} {x y : PyData} {rs : List Addr} {Q : Value → Shared → Prop} (hh : A.handled = none) (hr : ReadsAll s.heap [u, v] [x, y] rs) (ha : AlikeAll [x, y]) (hd : A.units + 1 + PyData.depthAll [x, y] < cLine)
    (h : ∀ h' tk, (∀ b o, s.heap.get? b = some o → h'.get? b = some o) → Q (if dataLt y x then v else u) { s with heap := h', toks := tk }) :
    wpAny (model prog w) A (call (.builtin "min") [u, v]) Q E s := by
  have en : (toString "min" ++ toString ".loop" : String) = "min.loop" := by decide
  refine call_function_tree F.kind_min F.plain_min F.entry_min (F.args_min2 u v) ?_
  show wpAny _ A.in1 (Builtin.Builtins.bindParams "min" ["key", "default"] 0 ⟨[], []⟩ >>= fun _ => _) _ _ s
  refine wpAny_bind (wpAny_of_eq (show Builtin.Builtins.bindParams "min" ["key", "default"] 0 ⟨[], []⟩ = pure [none, none] by rfl) ?_)
  show wpAny _ A.in1 (newTuple [u, v] >>= fun _ => _) _ _ s
  refine wpAny_bind (wpAny_newObj_type ?_)
  have tup : (s.heap.push { cls := .type "tuple", data := .seq #[u, v] } : Heap).IsTuple s.heap.objs.size #[u, v] := ⟨_, Heap.get?_push_size _ rfl, rfl, _, rfl⟩
  have old : ∀ b o, s.heap.get? b = some o → (s.heap.push { cls := .type "tuple", data := .seq #[u, v] } : Heap).get? b = some o := fun b o e => Heap.get?_push_of_some _ e
  have hr1 : ReadsAll (s.heap.push { cls := .type "tuple", data := .seq #[u, v] } : Heap) [u, v] [x, y] rs := ReadsAll.keeps old hr
  refine wpAny_bind (iter_tupleW (A := A.in1) (s := { s with heap := s.heap.push { cls := .type "tuple", data := .seq #[u, v] } }) hh tup fun t e W st low hw hk => ?_)
  refine wpAny_bind (wpAny_newObj_type ?_)
  rw [en]
  have cmp := cmpIn_lt (prog := prog) (w := w) (A := A.in1) (s := { s with heap := s.heap.push { cls := .type "tuple", data := .seq #[u, v] } }) (vs := #[u, v]) hr1 ha hd
  refine wpAny_pure ⟨plainId_quiet F.plain_min_loop _, codeAny_min_loop_firstH W _ hw _ cmp t.heap.objs.size (fun hm => absurd (low _ hm) (Nat.lt_irrefl _)) (fresh_in hk) _ (Nat.zero_lt_succ _) (fun b o q => Heap.get?_push_of_some _ (hk b o q))
    (W.frame 0 t _ t.toks st (Nat.le_refl _) fun b _ o q => Heap.get?_push_of_some _ q) (Heap.get?_push_size _ rfl) fun z s' hz hm => ?_⟩
  have hm2 := Moved.drop_new (tk := t.toks) hm (Nat.le_refl _)
  obtain ⟨h', tk, rfl, hold⟩ := moved_old e rfl hm2
  have e2 : z = if dataLt y x then v else u := by
    simp only [argBest, List.getD] at hz
    by_cases c : dataLt y x = true <;> simp_all [argBest]
  rw [e2]
  exact h h' tk fun b o q => hold b o (old b o q)
end
def rMinD (K : PySem.W.Frag) : List V → Hp → VK → Prop := fun xs H Q => ∃ (u v : V) (x y : PyData), xs = [u, v] ∧ Dp K H u x ∧ Dp K H v y ∧ AlikeAll [x, y] ∧ PyData.depthAll [x, y] ≤ 62 ∧ Q (if dataLt y x then v else u) H
theorem call_minD {X : Cx} (hc : X.calm = true) (hu : X.A.units + 64 < cLine) : CallR X (.builtin "min") (rMinD X.K) := by
  intro pins s σ H xs us Q I r h
  obtain ⟨u, v, x, y, rfl, h1, h2, al, dp, q⟩ := h
  obtain ⟨u', v', rfl, r1, r2⟩ := vals2 r
  obtain ⟨as, ra⟩ := Dp.readsAll I [x, y] [u, v] [u', v'] (.cons h1 (.cons h2 .nil)) r
  refine min_twoD (A := X.A) (I.ok.hd hc) ra al (by omega) fun h' tk hk => ⟨_, H, I.kept hk, ?_, q⟩
  split <;> assumption
def someD : PyData → Bool
  | .none => false
  | _ => true
theorem someD_ne {d : PyData} (h : someD d = true) : d ≠ .none := fun z => by rw [z] at h; cases h
def gMinD : List AV → AH → Res AV
  | [a, b], M => if plain 60 a = true ∧ plain 60 b = true ∧ alike (toD a) (toD b) = true ∧ alike (toD b) (toD a) = true ∧ alike (toD a) (toD a) = true ∧ alike (toD b) (toD b) = true ∧ someD (toD a) = true ∧ someD (toD b) = true then .ok (if dataLt (toD b) (toD a) then b else a) M else .stuck
  | _, _ => .stuck
theorem o_minD {C : Cm} : OpC C (rMinD C.K) gMinD := fun i M H xs as Q W s r p => by
  match as, r, p with
  | [], _, p => exact False.elim p
  | [_], _, p => exact False.elim p
  | _ :: _ :: _ :: _, _, p => exact False.elim p
  | [a, b], r, p =>
    cases r with
    | cons ra t =>
      cases t with
      | cons rb t =>
        cases t
        simp only [gMinD] at p
        by_cases c : plain 60 a = true ∧ plain 60 b = true ∧ alike (toD a) (toD b) = true ∧ alike (toD b) (toD a) = true ∧ alike (toD a) (toD a) = true ∧ alike (toD b) (toD b) = true ∧ someD (toD a) = true ∧ someD (toD b) = true
        · rw [if_pos c] at p
          obtain ⟨p1, p2, a1, a2, a3, a4, n1, n2⟩ := c
          have n1 := someD_ne n1
          have n2 := someD_ne n2
          have d1 := (pdl_depth _ 60 (pdl_of 60 a p1)).1
          have d2 := (pdl_depth _ 60 (pdl_of 60 b p2)).1
          refine ⟨_, _, toD a, toD b, rfl, dp_of _ 60 _ p1 ra, dp_of _ 60 _ p2 rb, ⟨fun x hx y hy => ?_, fun x hx => ?_⟩, ?_, ?_⟩
          · simp only [List.mem_cons, List.not_mem_nil, or_false] at hx hy
            rcases hx with rfl | rfl <;> rcases hy with rfl | rfl <;> assumption
          · simp only [List.mem_cons, List.not_mem_nil, or_false] at hx
            rcases hx with rfl | rfl <;> assumption
          · simp only [PyData.depthAll]
            omega
          · split
            · rename_i hl
              rw [if_pos hl] at p
              exact p.now s rb
            · rename_i hl
              rw [if_neg hl] at p
              exact p.now s ra
        · rw [if_neg c] at p
          exact p.elim
end Mx

namespace Px
open PySem hiding Env plain
open L2 Mx
theorem byrfl {α : Sort u} {a b : α} (h : a = b) : a = b := h
def wpR {α : Type} (r : Res α) (P : α → AH → Prop) (E : Str → List (Str × AV) → AH → Prop) : Prop := match r with
  | .ok a M => P a M
  | .exc c fs M => E c fs M
  | .stuck => False
structure SD where
  nx : Env → AH → Prop
  rt : AV → AH → Prop
  ex : Str → List (Str × AV) → AH → Prop
  bk : Env → AH → Prop
  ct : Env → AH → Prop
def wpS (r : SR) (D : SD) : Prop := match r with
  | .next G M => D.nx G M
  | .ret a M => D.rt a M
  | .brk G M => D.bk G M
  | .cnt G M => D.ct G M
  | .exc c fs _ M => D.ex c fs M
  | .stuck => False
section
variable {α β : Type} {P : α → AH → Prop} {E : Str → List (Str × AV) → AH → Prop}
@[simp] theorem wpR_ok (a : α) (M : AH) : wpR (.ok a M) P E = P a M := byrfl rfl
@[simp] theorem wpR_exc (c : Str) (fs : List (Str × AV)) (M : AH) : wpR (.exc c fs M) P E = E c fs M := byrfl rfl
@[simp] theorem wpR_stuck : wpR (.stuck : Res α) P E = False := byrfl rfl
@[simp] theorem wpR_bind (r : Res β) (f : β → AH → Res α) : wpR (r.bind f) P E = wpR r (fun a M => wpR (f a M) P E) E := by cases r <;> rfl
@[simp] theorem wpR_sized (n : Nat) (r : Res α) : wpR (sized n r) P E = (n ≤ 16777216 ∧ wpR r P E) := by
  unfold sized
  by_cases h : n ≤ 16777216 <;> simp [h]
theorem wpR.imp {r : Res α} {P P' : α → AH → Prop} {E E' : Str → List (Str × AV) → AH → Prop} (h : wpR r P E) (hp : ∀ a M, P a M → P' a M) (he : ∀ c fs M, E c fs M → E' c fs M) : wpR r P' E' := by
  cases r with
  | ok a M => exact hp _ _ h
  | exc c fs M => exact he _ _ _ h
  | stuck => exact h
theorem wpR_ite {c : Prop} [Decidable c] {r s : Res α} : wpR (if c then r else s) P E = if c then wpR r P E else wpR s P E := by by_cases h : c <;> simp [h]
theorem wpR_eq {r : Res α} {a : α} {M : AH} (h : wpR r (fun b M' => b = a ∧ M' = M) fun _ _ _ => False) : r = .ok a M := by
  cases r with
  | ok b M' => obtain ⟨rfl, rfl⟩ := h; rfl
  | exc c fs M => exact h.elim
  | stuck => exact h.elim
end
section
variable {D : SD} {G : Env} {M : AH}
@[simp] theorem wpS_next : wpS (.next G M) D = D.nx G M := byrfl rfl
@[simp] theorem wpS_ret (a : AV) : wpS (.ret a M) D = D.rt a M := byrfl rfl
@[simp] theorem wpS_brk : wpS (.brk G M) D = D.bk G M := byrfl rfl
@[simp] theorem wpS_cnt : wpS (.cnt G M) D = D.ct G M := byrfl rfl
@[simp] theorem wpS_exc (c : Str) (fs : List (Str × AV)) : wpS (.exc c fs G M) D = D.ex c fs M := byrfl rfl
@[simp] theorem wpS_stuck : wpS .stuck D = False := byrfl rfl
theorem wpS_ite {c : Prop} [Decidable c] {r s : SR} : wpS (if c then r else s) D = if c then wpS r D else wpS s D := by by_cases h : c <;> simp [h]
@[simp] theorem wpS_st {α : Type} (r : Res α) (f : α → AH → SR) : wpS (r.st G f) D = wpR r (fun a M => wpS (f a M) D) D.ex := by cases r <;> rfl
@[simp] theorem wpS_seq (r : SR) (n : SM) : wpS (r.seq n) D = wpS r ⟨fun G M => wpS (n G M) D, D.rt, D.ex, D.bk, D.ct⟩ := by cases r <;> rfl
theorem wpS.imp {r : SR} {D D' : SD} (h : wpS r D) (h1 : ∀ G M, D.nx G M → D'.nx G M) (h2 : ∀ a M, D.rt a M → D'.rt a M) (h3 : ∀ c fs M, D.ex c fs M → D'.ex c fs M) (h4 : ∀ G M, D.bk G M → D'.bk G M) (h5 : ∀ G M, D.ct G M → D'.ct G M) : wpS r D' := by
  cases r with
  | next G M => exact h1 _ _ h
  | ret a M => exact h2 _ _ h
  | brk G M => exact h4 _ _ h
  | cnt G M => exact h5 _ _ h
  | exc c fs G M => exact h3 _ _ _ h
  | stuck => exact h
@[simp] theorem wpS_then (m n : SM) : wpS (mThen m n G M) D = wpS (m G M) ⟨fun G M => wpS (n G M) D, D.rt, D.ex, D.bk, D.ct⟩ := byrfl (wpS_seq _ _)
@[simp] theorem wpS_mnext : wpS (mNext G M) D = D.nx G M := byrfl rfl
@[simp] theorem wpS_mbrk : wpS (mBrk G M) D = D.bk G M := byrfl rfl
@[simp] theorem wpS_mcnt : wpS (mCnt G M) D = D.ct G M := byrfl rfl
@[simp] theorem wpS_exp (m : EM) : wpS (mExp m G M) D = wpR (m G M) (fun _ M1 => D.nx G M1) D.ex := byrfl (wpS_st _ _)
@[simp] theorem wpS_mret (m : EM) : wpS (mRet m G M) D = wpR (m G M) D.rt D.ex := byrfl (wpS_st _ _)
@[simp] theorem wpS_retN : wpS (mRetN G M) D = D.rt .non M := byrfl rfl
@[simp] theorem wpS_set (k : Nat) (m : EM) : wpS (mSet k m G M) D = wpR (m G M) (fun a M1 => D.nx (G.set k (some a)) M1) D.ex := byrfl (wpS_st _ _)
@[simp] theorem wpS_if (t : BM) (m n : SM) : wpS (mIf t m n G M) D = wpR (t G M) (fun c M1 => if c = true then wpS (m G M1) D else wpS (n G M1) D) D.ex := by
  unfold mIf
  rw [wpS_st]
  congr 1
  funext c M1
  exact wpS_ite
@[simp] theorem wpS_asg (t : TMt) (m : EM) : wpS (mAsg t m G M) D = wpR (m G M) (fun a M1 => wpR (t a G M1) D.nx fun _ _ _ => False) D.ex := by
  unfold mAsg
  rw [wpS_st]
  congr 1
  funext a M1
  cases t a G M1 <;> rfl
end
section
variable {G : Env} {M : AH} {E : Str → List (Str × AV) → AH → Prop}
section
variable {P : AV → AH → Prop}
@[simp] theorem w_c (a : AV) : wpR (mC a G M) P E = P a M := byrfl rfl
@[simp] theorem w_var0 {a : AV} {r : Env} : wpR (mVar 0 (some a :: r) M) P E = P a M := byrfl rfl
@[simp] theorem w_varS {n : Nat} {o : Option AV} {r : Env} : wpR (mVar (n + 1) (o :: r) M) P E = wpR (mVar n r M) P E := byrfl rfl
@[simp] theorem w_var1 {a : AV} {o : Option AV} {r : Env} : wpR (mVar 1 (o :: some a :: r) M) P E = P a M := byrfl rfl
@[simp] theorem w_var2 {a : AV} {o p : Option AV} {r : Env} : wpR (mVar 2 (o :: p :: some a :: r) M) P E = P a M := byrfl rfl
@[simp] theorem w_var3 {a : AV} {o p q : Option AV} {r : Env} : wpR (mVar 3 (o :: p :: q :: some a :: r) M) P E = P a M := byrfl rfl
@[simp] theorem w_var4 {a : AV} {o p q s : Option AV} {r : Env} : wpR (mVar 4 (o :: p :: q :: s :: some a :: r) M) P E = P a M := byrfl rfl
@[simp] theorem w_var5 {a : AV} {o p q s t : Option AV} {r : Env} : wpR (mVar 5 (o :: p :: q :: s :: t :: some a :: r) M) P E = P a M := byrfl rfl
@[simp] theorem w_var6 {a : AV} {o p q s t u : Option AV} {r : Env} : wpR (mVar 6 (o :: p :: q :: s :: t :: u :: some a :: r) M) P E = P a M := byrfl rfl
@[simp] theorem w_var7 {a : AV} {o p q s t u v : Option AV} {r : Env} : wpR (mVar 7 (o :: p :: q :: s :: t :: u :: v :: some a :: r) M) P E = P a M := byrfl rfl
@[simp] theorem w_var8 {a : AV} {o p q s t u v w : Option AV} {r : Env} : wpR (mVar 8 (o :: p :: q :: s :: t :: u :: v :: w :: some a :: r) M) P E = P a M := byrfl rfl
@[simp] theorem w_var9 {a : AV} {o p q s t u v w x : Option AV} {r : Env} : wpR (mVar 9 (o :: p :: q :: s :: t :: u :: v :: w :: x :: some a :: r) M) P E = P a M := byrfl rfl
@[simp] theorem w_var10 {a : AV} {o p q s t u v w x y : Option AV} {r : Env} : wpR (mVar 10 (o :: p :: q :: s :: t :: u :: v :: w :: x :: y :: some a :: r) M) P E = P a M := byrfl rfl
@[simp] theorem w_var11 {a : AV} {o0 o1 o2 o3 o4 o5 o6 o7 o8 o9 o10 : Option AV} {r : Env} : wpR (mVar 11 (o0 :: o1 :: o2 :: o3 :: o4 :: o5 :: o6 :: o7 :: o8 :: o9 :: o10 :: some a :: r) M) P E = P a M := byrfl rfl
@[simp] theorem w_var12 {a : AV} {o0 o1 o2 o3 o4 o5 o6 o7 o8 o9 o10 o11 : Option AV} {r : Env} : wpR (mVar 12 (o0 :: o1 :: o2 :: o3 :: o4 :: o5 :: o6 :: o7 :: o8 :: o9 :: o10 :: o11 :: some a :: r) M) P E = P a M := byrfl rfl
@[simp] theorem w_var13 {a : AV} {o0 o1 o2 o3 o4 o5 o6 o7 o8 o9 o10 o11 o12 : Option AV} {r : Env} : wpR (mVar 13 (o0 :: o1 :: o2 :: o3 :: o4 :: o5 :: o6 :: o7 :: o8 :: o9 :: o10 :: o11 :: o12 :: some a :: r) M) P E = P a M := byrfl rfl
@[simp] theorem w_var14 {a : AV} {o0 o1 o2 o3 o4 o5 o6 o7 o8 o9 o10 o11 o12 o13 : Option AV} {r : Env} : wpR (mVar 14 (o0 :: o1 :: o2 :: o3 :: o4 :: o5 :: o6 :: o7 :: o8 :: o9 :: o10 :: o11 :: o12 :: o13 :: some a :: r) M) P E = P a M := byrfl rfl
@[simp] theorem w_var15 {a : AV} {o0 o1 o2 o3 o4 o5 o6 o7 o8 o9 o10 o11 o12 o13 o14 : Option AV} {r : Env} : wpR (mVar 15 (o0 :: o1 :: o2 :: o3 :: o4 :: o5 :: o6 :: o7 :: o8 :: o9 :: o10 :: o11 :: o12 :: o13 :: o14 :: some a :: r) M) P E = P a M := byrfl rfl
@[simp] theorem w_var16 {a : AV} {o0 o1 o2 o3 o4 o5 o6 o7 o8 o9 o10 o11 o12 o13 o14 o15 : Option AV} {r : Env} : wpR (mVar 16 (o0 :: o1 :: o2 :: o3 :: o4 :: o5 :: o6 :: o7 :: o8 :: o9 :: o10 :: o11 :: o12 :: o13 :: o14 :: o15 :: some a :: r) M) P E = P a M := byrfl rfl
@[simp] theorem w_var17 {a : AV} {o0 o1 o2 o3 o4 o5 o6 o7 o8 o9 o10 o11 o12 o13 o14 o15 o16 : Option AV} {r : Env} : wpR (mVar 17 (o0 :: o1 :: o2 :: o3 :: o4 :: o5 :: o6 :: o7 :: o8 :: o9 :: o10 :: o11 :: o12 :: o13 :: o14 :: o15 :: o16 :: some a :: r) M) P E = P a M := byrfl rfl
@[simp] theorem w_var18 {a : AV} {o0 o1 o2 o3 o4 o5 o6 o7 o8 o9 o10 o11 o12 o13 o14 o15 o16 o17 : Option AV} {r : Env} : wpR (mVar 18 (o0 :: o1 :: o2 :: o3 :: o4 :: o5 :: o6 :: o7 :: o8 :: o9 :: o10 :: o11 :: o12 :: o13 :: o14 :: o15 :: o16 :: o17 :: some a :: r) M) P E = P a M := byrfl rfl
@[simp] theorem w_var19 {a : AV} {o0 o1 o2 o3 o4 o5 o6 o7 o8 o9 o10 o11 o12 o13 o14 o15 o16 o17 o18 : Option AV} {r : Env} : wpR (mVar 19 (o0 :: o1 :: o2 :: o3 :: o4 :: o5 :: o6 :: o7 :: o8 :: o9 :: o10 :: o11 :: o12 :: o13 :: o14 :: o15 :: o16 :: o17 :: o18 :: some a :: r) M) P E = P a M := byrfl rfl
@[simp] theorem w_var20 {a : AV} {o0 o1 o2 o3 o4 o5 o6 o7 o8 o9 o10 o11 o12 o13 o14 o15 o16 o17 o18 o19 : Option AV} {r : Env} : wpR (mVar 20 (o0 :: o1 :: o2 :: o3 :: o4 :: o5 :: o6 :: o7 :: o8 :: o9 :: o10 :: o11 :: o12 :: o13 :: o14 :: o15 :: o16 :: o17 :: o18 :: o19 :: some a :: r) M) P E = P a M := byrfl rfl
@[simp] theorem w_var21 {a : AV} {o0 o1 o2 o3 o4 o5 o6 o7 o8 o9 o10 o11 o12 o13 o14 o15 o16 o17 o18 o19 o20 : Option AV} {r : Env} : wpR (mVar 21 (o0 :: o1 :: o2 :: o3 :: o4 :: o5 :: o6 :: o7 :: o8 :: o9 :: o10 :: o11 :: o12 :: o13 :: o14 :: o15 :: o16 :: o17 :: o18 :: o19 :: o20 :: some a :: r) M) P E = P a M := byrfl rfl
@[simp] theorem w_var22 {a : AV} {o0 o1 o2 o3 o4 o5 o6 o7 o8 o9 o10 o11 o12 o13 o14 o15 o16 o17 o18 o19 o20 o21 : Option AV} {r : Env} : wpR (mVar 22 (o0 :: o1 :: o2 :: o3 :: o4 :: o5 :: o6 :: o7 :: o8 :: o9 :: o10 :: o11 :: o12 :: o13 :: o14 :: o15 :: o16 :: o17 :: o18 :: o19 :: o20 :: o21 :: some a :: r) M) P E = P a M := byrfl rfl
@[simp] theorem w_var23 {a : AV} {o0 o1 o2 o3 o4 o5 o6 o7 o8 o9 o10 o11 o12 o13 o14 o15 o16 o17 o18 o19 o20 o21 o22 : Option AV} {r : Env} : wpR (mVar 23 (o0 :: o1 :: o2 :: o3 :: o4 :: o5 :: o6 :: o7 :: o8 :: o9 :: o10 :: o11 :: o12 :: o13 :: o14 :: o15 :: o16 :: o17 :: o18 :: o19 :: o20 :: o21 :: o22 :: some a :: r) M) P E = P a M := byrfl rfl
@[simp] theorem w_var24 {a : AV} {o0 o1 o2 o3 o4 o5 o6 o7 o8 o9 o10 o11 o12 o13 o14 o15 o16 o17 o18 o19 o20 o21 o22 o23 : Option AV} {r : Env} : wpR (mVar 24 (o0 :: o1 :: o2 :: o3 :: o4 :: o5 :: o6 :: o7 :: o8 :: o9 :: o10 :: o11 :: o12 :: o13 :: o14 :: o15 :: o16 :: o17 :: o18 :: o19 :: o20 :: o21 :: o22 :: o23 :: some a :: r) M) P E = P a M := byrfl rfl
@[simp] theorem w_bin (g : AV → AV → AH → Res AV) (ma mb : EM) : wpR (mBin g ma mb G M) P E = wpR (ma G M) (fun a M1 => wpR (mb G M1) (fun b M2 => wpR (g a b M2) P E) E) E := by
  unfold mBin
  simp
@[simp] theorem w_un (g : AV → AH → Res AV) (ma : EM) : wpR (mUn g ma G M) P E = wpR (ma G M) (fun a M1 => wpR (g a M1) P E) E := by
  unfold mUn
  simp
@[simp] theorem w_ifE (t : BM) (m n : EM) : wpR (mIfE t m n G M) P E = wpR (t G M) (fun c M1 => if c = true then wpR (m G M1) P E else wpR (n G M1) P E) E := by
  unfold mIfE
  simp [wpR_ite]
@[simp] theorem w_andV (m n : EM) : wpR (mAndV m n G M) P E = wpR (m G M) (fun a M1 => ∃ c, a = .bl c ∧ if c = true then wpR (n G M1) P E else P (.bl false) M1) E := by
  unfold mAndV
  rw [wpR_bind]
  congr 1
  funext a M1
  cases a with
  | bl c => cases c <;> simp
  | _ => simp
@[simp] theorem w_orV (m n : EM) : wpR (mOrV m n G M) P E = wpR (m G M) (fun a M1 => ∃ c, a = .bl c ∧ if c = true then P (.bl true) M1 else wpR (n G M1) P E) E := by
  unfold mOrV
  rw [wpR_bind]
  congr 1
  funext a M1
  cases a with
  | bl c => cases c <;> simp
  | _ => simp
@[simp] theorem w_notV (m : EM) : wpR (mNotV m G M) P E = wpR (m G M) (fun a M1 => ∃ c, a = .bl c ∧ P (.bl (!c)) M1) E := by
  unfold mNotV
  rw [wpR_bind]
  congr 1
  funext a M1
  cases a <;> simp
@[simp] theorem w_call (g : List AV → AH → Res AV) (n : AM) : wpR (mCall g n G M) P E = wpR (n G M) (fun as M1 => wpR (g as M1) P E) E := by
  unfold mCall
  simp
@[simp] theorem w_chain (g h : AV → AV → AH → Res AV) (ma mb mc : EM) : wpR (mChain g h ma mb mc G M) P E = wpR (ma G M) (fun a M1 => wpR (mb G M1) (fun b M2 => wpR (g a b M2) (fun r M3 => ∃ k, r = .bl k ∧ if k = true then wpR (mc G M3) (fun c M4 => wpR (h b c M4) P E) E else P (.bl false) M3) E) E) E := by
  unfold mChain
  simp only [wpR_bind]
  congr 1; funext a M1; congr 1; funext b M2; congr 1; funext r M3
  cases r with
  | bl k => cases k <;> simp
  | _ => simp
@[simp] theorem w_meth (ty : AH → AV → Bool) (g : AV → List AV → AH → Res AV) (m : EM) (n : AM) : wpR (mMeth ty g m n G M) P E = wpR (m G M) (fun a M1 => ty M1 a = true ∧ wpR (n G M1) (fun as M2 => wpR (g a as M2) P E) E) E := by
  unfold mMeth
  simp only [wpR_bind]
  congr 1; funext a M1
  by_cases h : ty M1 a = true <;> simp [h]
@[simp] theorem w_meth0 (ty : AH → AV → Bool) (g : AV → List AV → AH → Res AV) (m : EM) : wpR (mMeth0 ty g m G M) P E = wpR (m G M) (fun a M1 => ty M1 a = true ∧ wpR (g a [] M1) P E) E := by
  unfold mMeth0
  simp only [wpR_bind]
  congr 1; funext a M1
  by_cases h : ty M1 a = true <;> simp [h]
@[simp] theorem w_sl (g : AV → Option Int → Option Int → AH → Res AV) (m : EM) (ml mh : OM) : wpR (mSl g m ml mh G M) P E = wpR (m G M) (fun a M1 => wpR (ml G M1) (fun l M2 => wpR (mh G M2) (fun h M3 => wpR (g a l h M3) P E) E) E) E := by
  unfold mSl
  simp
end
@[simp] theorem w_noPart {P : Option Int → AH → Prop} : wpR (mNoPart G M) P E = P none M := byrfl rfl
@[simp] theorem w_part {P : Option Int → AH → Prop} (m : EM) : wpR (mPart m G M) P E = wpR (m G M) (fun a M1 => ∃ i, a = .int i ∧ P (some i) M1) E := by
  unfold mPart
  rw [wpR_bind]
  congr 1
  funext a M1
  cases a <;> simp
section
variable {P : List AV → AH → Prop}
@[simp] theorem w_nil : wpR (mNil G M) P E = P [] M := byrfl rfl
@[simp] theorem w_cons (m : EM) (n : AM) : wpR (mCons m n G M) P E = wpR (m G M) (fun a M1 => wpR (n G M1) (fun as M2 => P (a :: as) M2) E) E := by
  unfold mCons
  simp
end
section
variable {P : Bool → AH → Prop}
@[simp] theorem w_bl (m : EM) : wpR (mBl m G M) P E = wpR (m G M) (fun a M1 => ∃ c, a = .bl c ∧ P c M1) E := by
  unfold mBl
  rw [wpR_bind]
  congr 1
  funext a M1
  cases a <;> simp
@[simp] theorem w_tru (m : EM) : wpR (mTru m G M) P E = wpR (m G M) (fun a M1 => wpR (aTru a M1) P E) E := by
  unfold mTru
  simp
@[simp] theorem w_and (m n : BM) : wpR (mAnd m n G M) P E = wpR (m G M) (fun c M1 => if c = true then wpR (n G M1) P E else P false M1) E := by
  unfold mAnd
  simp [wpR_ite]
@[simp] theorem w_or (m n : BM) : wpR (mOr m n G M) P E = wpR (m G M) (fun c M1 => if c = true then P true M1 else wpR (n G M1) P E) E := by
  unfold mOr
  simp [wpR_ite]
@[simp] theorem w_not (m : BM) : wpR (mNot m G M) P E = wpR (m G M) (fun c M1 => P (!c) M1) E := by
  unfold mNot
  simp
end
end
section
variable {P : AV → AH → Prop} {E : Str → List (Str × AV) → AH → Prop}
def defD (P : AV → AH → Prop) (E : Str → List (Str × AV) → AH → Prop) : SD := ⟨fun _ M => P .non M, P, E, fun _ _ => False, fun _ _ => False⟩
@[simp] theorem defD_nx (G : Env) (M : AH) : (defD P E).nx G M = P .non M := byrfl rfl
@[simp] theorem defD_rt : (defD P E).rt = P := byrfl rfl
@[simp] theorem defD_ex : (defD P E).ex = E := byrfl rfl
@[simp] theorem defD_bk (G : Env) (M : AH) : (defD P E).bk G M = False := byrfl rfl
@[simp] theorem defD_ct (G : Env) (M : AH) : (defD P E).ct G M = False := byrfl rfl
theorem wp_def {n k : Nat} {b : SM} {as : List AV} {M : AH} (hl : as.length = n) (h : wpS (b (as.map some ++ List.replicate k none) M) (defD P E)) : wpR (mDef n k b as M) P E := by
  unfold mDef
  rw [if_pos hl]
  cases q : b (as.map some ++ List.replicate k none) M <;> rw [q] at h <;> exact h
end
theorem fin_same (M : AH) (a : AV) : fin M.objs.length M a = a := by
  cases a with
  | ref k =>
    unfold fin
    by_cases h : k < M.objs.length
    · simp [h]
    · simp [h]
  | _ => rfl
theorem cut_same (M : AH) : M.cut M.objs.length = M := by
  unfold AH.cut
  rw [List.take_length]
theorem clean_same (n : Nat) (M : AH) (h : n ≤ M.objs.length) : Clean n M M := ⟨rfl, h, fun k c _ h => .inl h⟩
theorem gc_same {m : List AV → AH → Res AV} {as : List AV} {M : AH} {a : AV} (h : m as M = .ok a M) : gc m as M = .ok a M := by
  unfold gc
  rw [h]
  simp only [fin_same, cut_same]
  split <;> rfl
theorem pure_eq {n k : Nat} {b : SM} {as : List AV} {M : AH} {a : AV} (hl : as.length = n) (h : wpS (b (as.map some ++ List.replicate k none) M) (defD (fun x M' => x = a ∧ M' = M) fun _ _ _ => False)) : gc (mDef n k b) as M = .ok a M :=
  gc_same (wpR_eq (wp_def hl h))
mutual
theorem plain_cl (n : Nat) : ∀ (d : Nat) (a : AV), plain d a = true → cl n a = true
  | _, .non, _ => rfl
  | _, .bl _, _ => rfl
  | _, .int _, _ => rfl
  | _, .str _, _ => rfl
  | 0, .tup _, h => by simp [plain] at h
  | 0, .lst _, h => by simp [plain] at h
  | 0, .fro _, h => by simp [plain] at h
  | 0, .tuc _, h => by simp [plain] at h
  | d + 1, .tup xs, h => plain_cls n d xs (by simpa [plain] using h)
  | d + 1, .lst xs, h => plain_cls n d xs (by simpa [plain] using h)
  | d + 1, .fro xs, h => plain_cls n d xs (by simpa [plain] using h)
  | d + 1, .tuc xs, h => plain_cls n d xs (by simpa [plain] using h)
  | d, .dK _, h => by cases d <;> simp [plain] at h
  | d, .dT _, h => by cases d <;> simp [plain] at h
  | d, .ref _, h => by cases d <;> simp [plain] at h
theorem plain_cls (n : Nat) : ∀ (d : Nat) (xs : List AV), (∀ a ∈ xs, plain d a = true) → cls n xs = true
  | _, [], _ => rfl
  | d, a :: r, h => by
    simp only [cls, Bool.and_eq_true]
    exact ⟨plain_cl n d a (h a (by simp)), plain_cls n d r fun b hb => h b (by simp [hb])⟩
end
end Px

namespace Px
open PySem hiding Env plain
open L2 Mx StrLaws
section
variable {G : Env} {M : AH} {E : Str → List (Str × AV) → AH → Prop}
@[simp] theorem w_lcV {P : AV → AH → Prop} (m : AM) : wpR (mLcV m G M) P E = wpR (m G M) (fun as M1 => P (.lst as) M1) E := by
  unfold mLcV
  simp
@[simp] theorem w_lcR {P : AV → AH → Prop} (m : AM) : wpR (mLcR m G M) P E = wpR (m G M) (fun as M1 => P (.ref M1.objs.length) ⟨M1.objs ++ [.lst as], M1.fz⟩) E := by
  unfold mLcR
  simp
@[simp] theorem w_lc {P : List AV → AH → Prop} (vs : List Nat) (ms : IM) (t : TMt) (c : BM) (el : EM) : wpR (mLc vs ms t c el G M) P E = wpR (ms G M) (fun S M1 => wpR (lcl S t c el (wipeG G vs) S.items [] M1) P E) E := by
  unfold mLc
  cases ms G M <;> simp
@[simp] theorem w_seq {P : Src → AH → Prop} (m : EM) : wpR (mSeq m G M) P E = wpR (m G M) (fun a M1 => ∃ S, seqOf M1 a = some S ∧ P S M1) E := by
  unfold mSeq
  rw [wpR_bind]
  congr 1
  funext a M1
  cases seqOf M1 a <;> simp
@[simp] theorem w_rng1 {P : Src → AH → Prop} (m : EM) : wpR (mRng1 (mCons m mNil) G M) P E = wpR (m G M) (fun a M1 => wpR (gRng [a] M1) P E) E := by
  unfold mRng1
  simp
@[simp] theorem w_rng2 {P : Src → AH → Prop} (m n : EM) : wpR (mRng2 (mCons m (mCons n mNil)) G M) P E = wpR (m G M) (fun a M1 => wpR (n G M1) (fun b M2 => wpR (gRng [a, b] M2) P E) E) E := by
  unfold mRng2
  simp
theorem w_gRng1 {P : Src → AH → Prop} {n : Int} (h : rngOk n = true) : wpR (gRng [.int n] M) P E = P ⟨rngItems 0 n.toNat, none⟩ M := by
  simp [gRng, h]
@[simp] theorem wpS_for {D : SD} (ms : IM) (t : TMt) (body : SM) : wpS (mFor ms t body G M) D = wpR (ms G M) (fun S M1 => wpS (loop S t body S.items G M1) D) D.ex := by
  unfold mFor
  cases ms G M <;> rfl
end
theorem rng_len (lo : Int) (n : Nat) : (rngItems lo n).length = n := by simp [rngItems]
theorem held_none {l : List AV} {M : AH} : (Src.mk l none).held M := trivial
section
variable {l0 : List AV} {t : TMt} {body : SM} {c : BM} {el : EM} {G : Env} {M : AH} {a : AV} {r acc : List AV}
theorem loop_nil : loop ⟨l0, none⟩ t body [] G M = .next G M := if_pos held_none
theorem loop_cons : loop ⟨l0, none⟩ t body (a :: r) G M = (match t a G M with
    | .ok G1 M1 => (match body G1 M1 with
      | .next G2 M2 => loop ⟨l0, none⟩ t body r G2 M2
      | .cnt G2 M2 => loop ⟨l0, none⟩ t body r G2 M2
      | .brk G2 M2 => .next G2 M2
      | r => r)
    | _ => .stuck) := if_pos held_none
theorem lcl_nil : lcl ⟨l0, none⟩ t c el G [] acc M = .ok acc M := if_pos held_none
theorem lcl_cons : lcl ⟨l0, none⟩ t c el G (a :: r) acc M = (match t a G M with
    | .ok G1 M1 => (match c G1 M1 with
      | .ok b M2 => if b = true then (match el G1 M2 with
        | .ok y M3 => sized (acc.length + 1) (lcl ⟨l0, none⟩ t c el G r (acc ++ [y]) M3)
        | _ => .stuck) else lcl ⟨l0, none⟩ t c el G r acc M2
      | _ => .stuck)
    | _ => .stuck) := if_pos held_none
end
theorem wp_lcl {l0 : List AV} {t : TMt} {c : BM} {el : EM} {G : Env} {E : Str → List (Str × AV) → AH → Prop} (I : List AV → AH → Prop) {P : List AV → AH → Prop} :
    ∀ (items acc : List AV) (M : AH), acc.length + items.length ≤ 16777216 → I acc M →
    (∀ a ∈ items, ∀ acc M, I acc M → wpR (t a G M) (fun G1 M1 => wpR (c G1 M1) (fun b M2 => if b = true then wpR (el G1 M2) (fun y M3 => I (acc ++ [y]) M3) fun _ _ _ => False else I acc M2) fun _ _ _ => False) fun _ _ _ => False) →
    (∀ acc' M', acc'.length ≤ acc.length + items.length → I acc' M' → P acc' M') → wpR (lcl ⟨l0, none⟩ t c el G items acc M) P E
  | [], acc, M, hn, h, _, hp => by
    simp only [lcl_nil, wpR_ok]
    exact hp _ _ (by simp) h
  | a :: r, acc, M, hn, h, hs, hp => by
    have h1 := hs a (by simp) acc M h
    simp only [List.length_cons] at hn
    have ih := fun acc' M' (hl : acc'.length ≤ acc.length + 1) (hI : I acc' M') => wp_lcl (l0 := l0) (E := E) (P := P) (c := c) (t := t) (el := el) (G := G) I r acc' M' (by omega) hI (fun b hb => hs b (by simp [hb])) (fun acc2 M2 hl2 => hp acc2 M2 (by simp only [List.length_cons]; omega))
    simp only [lcl_cons]
    cases q : t a G M with
    | ok G1 M1 =>
      rw [q] at h1
      simp only [wpR_ok] at h1
      cases q2 : c G1 M1 with
      | ok b M2 =>
        rw [q2] at h1
        simp only [wpR_ok] at h1
        by_cases hb : b = true
        · simp only [hb, if_true] at h1
          simp only [q2, hb, if_true]
          cases q3 : el G1 M2 with
          | ok y M3 =>
            rw [q3] at h1
            simp only [wpR_ok] at h1
            simp only [wpR_sized]
            refine ⟨by omega, ih _ _ (by simp) h1⟩
          | exc c fs M' => rw [q3] at h1; exact h1.elim
          | stuck => rw [q3] at h1; exact h1.elim
        · simp only [hb, if_false] at h1
          simp only [q2, hb, if_false]
          exact ih _ _ (by omega) h1
      | exc c fs M' => rw [q2] at h1; exact h1.elim
      | stuck => rw [q2] at h1; exact h1.elim
    | exc c fs M' => rw [q] at h1; exact h1.elim
    | stuck => rw [q] at h1; exact h1.elim
theorem wp_loop {l0 : List AV} {t : TMt} {body : SM} {D : SD} (I : Nat → Env → AH → Prop) :
    ∀ (items : List AV) (k : Nat) (G : Env) (M : AH), I k G M →
    (∀ j a G M, items[j]? = some a → I (k + j) G M → wpR (t a G M) (fun G1 M1 => wpS (body G1 M1) ⟨I (k + j + 1), D.rt, D.ex, D.nx, I (k + j + 1)⟩) fun _ _ _ => False) →
    (∀ G M, I (k + items.length) G M → D.nx G M) → wpS (loop ⟨l0, none⟩ t body items G M) D
  | [], k, G, M, h, _, hp => by
    simp only [loop_nil, wpS_next]
    exact hp _ _ h
  | a :: r, k, G, M, h, hs, hp => by
    have h1 := hs 0 a G M rfl h
    have ih := fun G' M' (hI : I (k + 1) G' M') => wp_loop (l0 := l0) (D := D) (t := t) (body := body) I r (k + 1) G' M' hI (fun j b G2 M2 hb hI2 => by
      have q := hs (j + 1) b G2 M2 (by simpa using hb) (by rwa [show k + (j + 1) = k + 1 + j by omega])
      rwa [show k + (j + 1) = k + 1 + j by omega] at q) (fun G2 M2 hI2 => hp _ _ (by rwa [List.length_cons, show k + (r.length + 1) = k + 1 + r.length by omega]))
    simp only [loop_cons]
    cases q : t a G M with
    | ok G1 M1 =>
      rw [q] at h1
      simp only [wpR_ok] at h1
      show wpS (match body G1 M1 with
        | .next G2 M2 => loop ⟨l0, none⟩ t body r G2 M2
        | .cnt G2 M2 => loop ⟨l0, none⟩ t body r G2 M2
        | .brk G2 M2 => .next G2 M2
        | r => r) D
      cases q2 : body G1 M1 with
      | next G2 M2 => rw [q2] at h1; exact ih _ _ h1
      | cnt G2 M2 => rw [q2] at h1; exact ih _ _ h1
      | brk G2 M2 => rw [q2] at h1; exact h1
      | ret a M => rw [q2] at h1; exact h1
      | exc c fs G M => rw [q2] at h1; exact h1
      | stuck => rw [q2] at h1; exact h1
    | exc c fs M' => rw [q] at h1; exact h1.elim
    | stuck => rw [q] at h1; exact h1.elim
section
variable {M : AH} {P : AV → AH → Prop} {E : Str → List (Str × AV) → AH → Prop} {G : Env}
@[simp] theorem v_nm (n : Nat) (a : AV) {P : Env → AH → Prop} : wpR (gNm n a G M) P E = P (G.set n (some a)) M := byrfl rfl
@[simp] theorem v_addI (i j : Int) : gAdd (.int i) (.int j) M = .ok (.int (i + j)) M := byrfl rfl
@[simp] theorem v_addS (x y : Str) : gAdd (.str x) (.str y) M = sized (x.length + y.length) (.ok (.str (x ++ y)) M) := byrfl rfl
@[simp] theorem v_addT (xs ys : List AV) : gAdd (.tup xs) (.tup ys) M = sized (xs.length + ys.length) (.ok (.tup (xs ++ ys)) M) := byrfl rfl
@[simp] theorem v_addL (xs ys : List AV) : gAdd (.lst xs) (.lst ys) M = sized (xs.length + ys.length) (.ok (.lst (xs ++ ys)) M) := byrfl rfl
@[simp] theorem v_sub (i j : Int) : gSub (.int i) (.int j) M = .ok (.int (i - j)) M := byrfl rfl
@[simp] theorem v_neg (i : Int) : gNeg (.int i) M = .ok (.int (-i)) M := byrfl rfl
@[simp] theorem w_mul (i j : Int) : wpR (gMul (.int i) (.int j) M) P E = (mulOk i j ∧ P (.int (i * j)) M) := by
  unfold gMul
  by_cases h : mulOk i j <;> simp [h]
@[simp] theorem w_div (i j : Int) : wpR (gDiv (.int i) (.int j) M) P E = ((j ≠ 0 ∧ j.natAbs < 1073741824) ∧ P (.int (i.fdiv j)) M) := by
  show wpR (if j ≠ 0 ∧ j.natAbs < 1073741824 then Res.ok (AV.int (i.fdiv j)) M else .stuck) P E = _
  by_cases h : j ≠ 0 ∧ j.natAbs < 1073741824
  · rw [if_pos h]
    simp [h]
  · rw [if_neg h]
    simp only [wpR_stuck, h, false_and]
@[simp] theorem w_mod (i j : Int) : wpR (gMod (.int i) (.int j) M) P E = (j ≠ 0 ∧ P (.int (i.fmod j)) M) := by
  unfold gMod
  by_cases h : j ≠ 0 <;> simp [h]
@[simp] theorem w_pow (i j : Int) : wpR (gPow (.int i) (.int j) M) P E = ((0 ≤ j ∧ j ≤ 1000000 ∧ i.natAbs < 2 ^ 64) ∧ P (.int (i ^ j.toNat)) M) := by
  show wpR (if 0 ≤ j ∧ j ≤ 1000000 ∧ i.natAbs < 2 ^ 64 then Res.ok (AV.int (i ^ j.toNat)) M else .stuck) P E = _
  by_cases h : 0 ≤ j ∧ j ≤ 1000000 ∧ i.natAbs < 2 ^ 64
  · rw [if_pos h]
    simp [h]
  · rw [if_neg h]
    simp only [wpR_stuck, h, false_and]
@[simp] theorem v_ordI (f : Int → Int → Bool) (g : List Nat → List Nat → Bool) (i j : Int) : gOrd f g (.int i) (.int j) M = .ok (.bl (f i j)) M := byrfl rfl
theorem v_eqI (i j : Int) : gEq (.int i) (.int j) M = .ok (.bl (decide (i = j))) M := by
  simp only [gEq, top, plain, Bool.and_self, if_true, aeq, toD, PyData.eqv]
  rfl
theorem v_neI (i j : Int) : gNe (.int i) (.int j) M = .ok (.bl (!decide (i = j))) M := by
  simp only [gNe, top, plain, Bool.and_self, if_true, aeq, toD, PyData.eqv]
  rfl
theorem v_eqS (i j : Str) : gEq (.str i) (.str j) M = .ok (.bl (decide (i = j))) M := by
  simp only [gEq, top, plain, Bool.and_self, if_true, aeq, toD, PyData.eqv]
  congr 2
theorem v_neS (i j : Str) : gNe (.str i) (.str j) M = .ok (.bl (!decide (i = j))) M := by
  simp only [gNe, top, plain, Bool.and_self, if_true, aeq, toD, PyData.eqv]
  congr 2
theorem eqv_nil : ∀ xs : List AV, PyData.eqvAll (toDs xs) [] = xs.isEmpty
  | [] => by simp [toDs, PyData.eqvAll]
  | a :: r => by simp [toDs, PyData.eqvAll]
theorem v_neL0 {xs : List AV} (h : plain 60 (.lst xs) = true) : gNe (.lst xs) (.lst []) M = .ok (.bl (!xs.isEmpty)) M := by
  have e : plain 60 (.lst []) = true := rfl
  simp only [gNe, top, h, e, Bool.and_self, if_true, aeq, toD, PyData.eqv, toDs, eqv_nil]
@[simp] theorem v_lenS (z : Str) : gLen [.str z] M = sized z.length (.ok (.int z.length) M) := byrfl rfl
@[simp] theorem v_lenL (xs : List AV) : gLen [.lst xs] M = .ok (.int xs.length) M := byrfl rfl
@[simp] theorem v_lenF (xs : List AV) : gLen [.fro xs] M = .ok (.int xs.length) M := byrfl rfl
@[simp] theorem v_lenT (xs : List AV) : gLen [.tup xs] M = .ok (.int xs.length) M := byrfl rfl
@[simp] theorem v_truB (b : Bool) : aTru (.bl b) M = .ok b M := byrfl rfl
@[simp] theorem v_seqS (x : Str) : seqOf M (.str x) = some ⟨x.cps.toList.map fun c => .str ⟨#[c]⟩, none⟩ := byrfl rfl
@[simp] theorem v_seqT (xs : List AV) : seqOf M (.tup xs) = some ⟨xs, none⟩ := byrfl rfl
@[simp] theorem v_seqL (xs : List AV) : seqOf M (.lst xs) = some ⟨xs, none⟩ := byrfl rfl
@[simp] theorem v_seqF (xs : List AV) : seqOf M (.fro xs) = some ⟨xs, none⟩ := byrfl rfl
@[simp] theorem v_listT (xs : List AV) : gListV [.tup xs] M = .ok (.lst xs) M := byrfl rfl
@[simp] theorem v_listL (xs : List AV) : gListV [.lst xs] M = .ok (.lst xs) M := byrfl rfl
@[simp] theorem v_tupleL (xs : List AV) : gTuple [.lst xs] M = .ok (.tup xs) M := byrfl rfl
@[simp] theorem v_tupleT (xs : List AV) : gTuple [.tup xs] M = .ok (.tup xs) M := byrfl rfl
@[simp] theorem v_tupD (xs : List AV) : gTupD xs M = sized xs.length (.ok (.tup xs) M) := byrfl rfl
@[simp] theorem v_lstD (xs : List AV) : gLstD xs M = sized xs.length (.ok (.lst xs) M) := byrfl rfl
@[simp] theorem v_lstR (xs : List AV) : gLstR xs M = sized xs.length (.ok (.ref M.objs.length) ⟨M.objs ++ [.lst xs], M.fz⟩) := byrfl rfl
@[simp] theorem v_slT (xs : List AV) (l h : Option Int) : gSl (.tup xs) l h M = .ok (.tup (cutA xs l h)) M := byrfl rfl
@[simp] theorem v_slL (xs : List AV) (l h : Option Int) : gSl (.lst xs) l h M = .ok (.lst (cutA xs l h)) M := byrfl rfl
@[simp] theorem v_slF (xs : List AV) (l h : Option Int) : gSl (.fro xs) l h M = .ok (.lst (cutA xs l h)) M := byrfl rfl
@[simp] theorem w_slS (z : Str) (l h : Option Int) : wpR (gSl (.str z) l h M) P E = (z.length ≤ 16777216 ∧ P (.str (cutS z l h)) M) := by
  unfold gSl
  by_cases q : z.length ≤ 16777216 <;> simp [q]
theorem w_ixL {xs : List AV} {i : Int} : wpR (gIx (.lst xs) (.int i) M) P E = ∃ v, atI xs i = some v ∧ P v M := by
  show wpR (match atI xs i with | some v => Res.ok v M | none => .stuck) P E = _
  cases atI xs i <;> simp
theorem w_ixT {xs : List AV} {i : Int} : wpR (gIx (.tup xs) (.int i) M) P E = ∃ v, atI xs i = some v ∧ P v M := by
  show wpR (match atI xs i with | some v => Res.ok v M | none => .stuck) P E = _
  cases atI xs i <;> simp
theorem w_ixS {z : Str} {i : Int} (hz : z.length ≤ 16777216) : wpR (gIx (.str z) (.int i) M) P E = ∃ c, atI z.cps.toList i = some c ∧ P (.str ⟨#[c]⟩) M := by
  unfold gIx ixA
  simp only [hz, if_true]
  cases atI z.cps.toList i <;> simp
theorem at_nn {α : Type} {xs : List α} {i : Int} (h0 : 0 ≤ i) (h1 : i < xs.length) : atI xs i = some (xs[i.toNat]'(by omega)) := by
  unfold atI ixN
  simp only [h0, h1, if_true, Option.bind_some]
  rw [List.getElem?_eq_getElem]
theorem at_mem {α : Type} {xs : List α} {i : Int} (h0 : 0 ≤ i) (h1 : i < xs.length) : ∃ v, atI xs i = some v ∧ v ∈ xs := ⟨_, at_nn h0 h1, List.getElem_mem _⟩
end
theorem plain_mono : ∀ (d e : Nat) (a : AV), d ≤ e → plain d a = true → plain e a = true
  | _, _, .non, _, _ => by simp [plain]
  | _, _, .bl _, _, _ => by simp [plain]
  | _, _, .int _, _, _ => by simp [plain]
  | _, _, .str _, _, _ => by simp [plain]
  | 0, _, .tup _, _, h => by simp [plain] at h
  | 0, _, .lst _, _, h => by simp [plain] at h
  | 0, _, .fro _, _, h => by simp [plain] at h
  | 0, _, .tuc _, _, h => by simp [plain] at h
  | d + 1, 0, _, h, _ => by omega
  | d + 1, e + 1, .tup xs, he, h => by
    simp only [plain, List.all_eq_true] at h ⊢
    exact fun x hx => plain_mono d e x (by omega) (h x hx)
  | d + 1, e + 1, .lst xs, he, h => by
    simp only [plain, List.all_eq_true] at h ⊢
    exact fun x hx => plain_mono d e x (by omega) (h x hx)
  | d + 1, e + 1, .fro xs, he, h => by
    simp only [plain, List.all_eq_true] at h ⊢
    exact fun x hx => plain_mono d e x (by omega) (h x hx)
  | d + 1, e + 1, .tuc xs, he, h => by
    simp only [plain, List.all_eq_true] at h ⊢
    exact fun x hx => plain_mono d e x (by omega) (h x hx)
  | d + 1, e + 1, .dK _, _, h => by simp [plain] at h
  | d + 1, e + 1, .dT _, _, h => by simp [plain] at h
  | d + 1, e + 1, .ref _, _, h => by simp [plain] at h
  | 0, _, .dK _, _, h => by simp [plain] at h
  | 0, _, .dT _, _, h => by simp [plain] at h
  | 0, _, .ref _, _, h => by simp [plain] at h
structure Sh (d n : Nat) (a : AV) : Prop where
  pl : plain d a = true
  ok : (toD a).showable = true
  le : (shw a).length ≤ n
theorem Sh.mono {d n e m : Nat} {a : AV} (h : Sh d n a) (hd : d ≤ e) (hn : n ≤ m) : Sh e m a := ⟨plain_mono d e a hd h.pl, h.ok, Nat.le_trans h.le hn⟩
theorem pow10_2 (k : Nat) (h : k ≤ 500) : 10 ^ k < 2 ^ 1920 := Nat.lt_of_le_of_lt (Nat.pow_le_pow_right (by decide) h) (by decide +kernel)
theorem sh_int {i : Int} (k : Nat) (h : i.natAbs < 10 ^ k) (h0 : 0 < k) (h1 : k ≤ 500) : Sh 0 (k + 1) (.int i) := by
  refine ⟨rfl, ?_, ?_⟩
  · simp only [toD, PyData.showable, decide_eq_true_eq]
    by_cases z : i.natAbs = 0
    · rw [z]
      decide
    · exact (Nat.log2_lt z).mpr (Nat.lt_trans h (pow10_2 k h1))
  · simp only [shw, toD, PyData.shown_int]
    have e := int_text_length_le10 (a := i) h0 h
    rw [ofString_length]
    exact e
theorem sh_str {x : Str} (h : ∀ c ∈ x.cps.toList, c < 16 ^ 8) : Sh 0 (10 * x.length + 2) (.str x) := by
  refine ⟨rfl, rfl, ?_⟩
  simp only [shw, toD, PyData.shown_str]
  exact reprText_len x h
theorem toDs_map : ∀ xs : List AV, toDs xs = xs.map toD
  | [] => by simp only [toDs, List.map_nil]
  | a :: r => by simp only [toDs, List.map_cons, toDs_map r]
theorem showableAll_of : ∀ xs : List PyData, (∀ x ∈ xs, x.showable = true) → PyData.showableAll xs = true
  | [], _ => by simp only [PyData.showableAll]
  | a :: r, h => by
    simp only [PyData.showableAll, Bool.and_eq_true]
    exact ⟨h a (by simp), showableAll_of r fun x hx => h x (by simp [hx])⟩
theorem shownAll_map : ∀ xs : List PyData, PyData.shownAll xs = xs.map PyData.shown
  | [] => by simp only [PyData.shownAll, List.map_nil]
  | a :: r => by simp only [PyData.shownAll, List.map_cons, shownAll_map r]
theorem sum_le {α : Type} (f : α → Nat) (n : Nat) : ∀ xs : List α, (∀ x ∈ xs, f x ≤ n) → (xs.map f).sum ≤ n * xs.length
  | [], _ => by simp
  | a :: r, h => by
    have h1 := h a (by simp)
    have h2 := sum_le f n r fun x hx => h x (by simp [hx])
    simp only [List.map_cons, List.sum_cons, List.length_cons, Nat.mul_succ]
    omega
theorem sh_tup {d n : Nat} {xs : List AV} (h : ∀ a ∈ xs, Sh d n a) : Sh (d + 1) ((n + 2) * xs.length + 3) (.tup xs) := by
  refine ⟨?_, ?_, ?_⟩
  · simp only [plain, List.all_eq_true]
    exact fun x hx => (h x hx).pl
  · simp only [toD, PyData.showable]
    refine showableAll_of _ fun x hx => ?_
    rw [toDs_map] at hx
    obtain ⟨a, ha, rfl⟩ := List.mem_map.mp hx
    exact (h a ha).ok
  · simp only [shw, toD, PyData.shown, shownAll_map, toDs_map, List.map_map]
    refine Nat.le_trans (tupleText_len_le _) ?_
    have := sum_le (fun a => (shw a).length) n xs fun x hx => (h x hx).le
    simp only [List.map_map, List.length_map]
    have e : (List.map ((fun x => x.length) ∘ PyData.shown ∘ toD) xs).sum = (xs.map fun a => (shw a).length).sum := rfl
    rw [e, Nat.add_mul]
    omega
theorem sh_lst {d n : Nat} {xs : List AV} (h : ∀ a ∈ xs, Sh d n a) : Sh (d + 1) ((n + 2) * xs.length + 3) (.lst xs) := by
  refine ⟨?_, ?_, ?_⟩
  · simp only [plain, List.all_eq_true]
    exact fun x hx => (h x hx).pl
  · simp only [toD, PyData.showable]
    refine showableAll_of _ fun x hx => ?_
    rw [toDs_map] at hx
    obtain ⟨a, ha, rfl⟩ := List.mem_map.mp hx
    exact (h a ha).ok
  · simp only [shw, toD, PyData.shown, shownAll_map, toDs_map, List.map_map]
    refine Nat.le_trans (listText_len_le _) ?_
    have := sum_le (fun a => (shw a).length) n xs fun x hx => (h x hx).le
    simp only [List.map_map, List.length_map]
    have e : (List.map ((fun x => x.length) ∘ PyData.shown ∘ toD) xs).sum = (xs.map fun a => (shw a).length).sum := rfl
    rw [e, Nat.add_mul]
    omega
theorem plain_top {d : Nat} {a : AV} (M : AH) (h : plain d a = true) : top M a = a := by
  cases a <;> first | rfl | (cases d <;> simp [plain] at h)
theorem v_repr {d n : Nat} {a : AV} {M : AH} (h : Sh d n a) (hd : d ≤ 60) (hn : n ≤ 16777216) : gRepr [a] M = .ok (.str (shw a)) M := by
  unfold gRepr
  simp only [plain_top M h.pl]
  rw [if_pos ⟨plain_mono d 60 a hd h.pl, h.ok, Nat.le_trans h.le hn⟩]
end Px

namespace Px
open PySem hiding Env plain
open L2 Mx
abbrev fdK (cs : List Int) (a l n : Int) : List (Key × AV) := [(.inr "cells", .lst (cs.map .int)), (.inr "at", .int a), (.inr "left", .int l), (.inr "count", .int n)]
def fd (cs : List Int) (a l n : Int) : AV := .dK (fdK cs a l n)
def st (cs : List Int) (a l n : Int) (rest : List AV) (fz : List Nat) : AH := ⟨fd cs a l n :: rest, fz⟩
def Fs (rest : List AV) (fz : List Nat) (M : AH) : Prop := ∃ cs a l n, M = st cs a l n rest fz
theorem fdk_cells (cs : List Int) (a l n : Int) : getK (fdK cs a l n) (.inr ("cells" : Str)) = some (.lst (cs.map .int)) := by kernel_rfl
theorem fdk_at (cs : List Int) (a l n : Int) : getK (fdK cs a l n) (.inr ("at" : Str)) = some (.int a) := by kernel_rfl
theorem fdk_left (cs : List Int) (a l n : Int) : getK (fdK cs a l n) (.inr ("left" : Str)) = some (.int l) := by kernel_rfl
theorem fdk_count (cs : List Int) (a l n : Int) : getK (fdK cs a l n) (.inr ("count" : Str)) = some (.int n) := by kernel_rfl
theorem fdk_sat (cs : List Int) (a l n v : Int) : setK (fdK cs a l n) (.inr ("at" : Str)) (.int v) = fdK cs v l n := by kernel_rfl
theorem fdk_sleft (cs : List Int) (a l n v : Int) : setK (fdK cs a l n) (.inr ("left" : Str)) (.int v) = fdK cs a v n := by kernel_rfl
theorem fdk_scount (cs : List Int) (a l n v : Int) : setK (fdK cs a l n) (.inr ("count" : Str)) (.int v) = fdK cs a l v := by kernel_rfl
section
variable {cs : List Int} {a l n : Int} {rest : List AV} {fz : List Nat} {P : AV → AH → Prop} {E : Str → List (Str × AV) → AH → Prop} {G : Env}
@[simp] theorem f_cells : gIx (.ref 0) (.str "cells") (st cs a l n rest fz) = .ok (.lst (cs.map .int)) (st cs a l n rest fz) := by
  simp only [gIx, ixA, ixO, dctK, st, List.getElem?_cons_zero, fd, keyK, Option.bind_some, fdk_cells]
@[simp] theorem f_at : gIx (.ref 0) (.str "at") (st cs a l n rest fz) = .ok (.int a) (st cs a l n rest fz) := by
  simp only [gIx, ixA, ixO, dctK, st, List.getElem?_cons_zero, fd, keyK, Option.bind_some, fdk_at]
@[simp] theorem f_left : gIx (.ref 0) (.str "left") (st cs a l n rest fz) = .ok (.int l) (st cs a l n rest fz) := by
  simp only [gIx, ixA, ixO, dctK, st, List.getElem?_cons_zero, fd, keyK, Option.bind_some, fdk_left]
@[simp] theorem f_count : gIx (.ref 0) (.str "count") (st cs a l n rest fz) = .ok (.int n) (st cs a l n rest fz) := by
  simp only [gIx, ixA, ixO, dctK, st, List.getElem?_cons_zero, fd, keyK, Option.bind_some, fdk_count]
theorem f_put {mi : EM} {k : Str} {v : AV} {kvs : List (Key × AV)} {r : Env} (h0 : 0 ∉ fz) (hk : mi (some (.ref 0) :: r) (st cs a l n rest fz) = .ok (.str k) (st cs a l n rest fz)) (hs : setK (fdK cs a l n) (.inr k) v = kvs) :
    gPut (mVar 0) mi v (some (.ref 0) :: r) (st cs a l n rest fz) = .ok (some (.ref 0) :: r) ⟨.dK kvs :: rest, fz⟩ := by
  have e : mVar 0 (some (.ref 0) :: r) (st cs a l n rest fz) = .ok (.ref 0) (st cs a l n rest fz) := rfl
  simp only [gPut, e, hk, aSet]
  have e1 : (st cs a l n rest fz).objs[0]? = some (.dK (fdK cs a l n)) := rfl
  have e2 : ¬ (0 ∈ (st cs a l n rest fz).fz ∨ ¬ (fdK cs a l n).length < 16777216) := fun h => by
    rcases h with h | h
    · exact h0 h
    · exact h (by simp [fdK])
  simp only [e1]
  rw [if_neg e2]
  simp only [keyK, Option.map_some, hs]
  rfl
theorem f_putAt {v : Int} {r : Env} (h0 : 0 ∉ fz) {P : Env → AH → Prop} : wpR (gPut (mVar 0) (mC (.str "at")) (.int v) (some (.ref 0) :: r) (st cs a l n rest fz)) P E = P (some (.ref 0) :: r) (st cs v l n rest fz) := by
  rw [f_put h0 rfl (fdk_sat cs a l n v)]
  rfl
theorem f_putLeft {v : Int} {r : Env} (h0 : 0 ∉ fz) {P : Env → AH → Prop} : wpR (gPut (mVar 0) (mC (.str "left")) (.int v) (some (.ref 0) :: r) (st cs a l n rest fz)) P E = P (some (.ref 0) :: r) (st cs a v n rest fz) := by
  rw [f_put h0 rfl (fdk_sleft cs a l n v)]
  rfl
theorem f_putCount {v : Int} {r : Env} (h0 : 0 ∉ fz) {P : Env → AH → Prop} : wpR (gPut (mVar 0) (mC (.str "count")) (.int v) (some (.ref 0) :: r) (st cs a l n rest fz)) P E = P (some (.ref 0) :: r) (st cs a l v rest fz) := by
  rw [f_put h0 rfl (fdk_scount cs a l n v)]
  rfl
end
theorem plain_ints (cs : List Int) : plain 60 (.lst (cs.map .int)) = true := by
  simp only [plain, List.all_map, List.all_eq_true]
  intro x _
  rfl
theorem cl_fd (m : Nat) (cs : List Int) (a l n : Int) : cl m (fd cs a l n) = true := by
  have e : cls m (cs.map .int) = true := plain_cls m 60 _ fun x hx => by
    obtain ⟨i, _, rfl⟩ := List.mem_map.mp hx
    rfl
  simp only [fd, cl, clk, e, Bool.and_true]
theorem Fs.len {rest : List AV} {fz : List Nat} {M : AH} (h : Fs rest fz M) : M.objs.length = rest.length + 1 := by
  obtain ⟨cs, a, l, n, rfl⟩ := h
  rfl
theorem wp_gcF {m : List AV → AH → Res AV} {as : List AV} {M : AH} {rest : List AV} {fz : List Nat} {P : AV → AH → Prop} {E : Str → List (Str × AV) → AH → Prop} (hM : Fs rest fz M)
    (h : wpR (m as M) (fun a M' => plain 60 a = true ∧ (∃ tmp, Fs (rest ++ tmp) fz M') ∧ ∀ M'', Fs rest fz M'' → P a M'') fun _ _ _ => False) : wpR (gc m as M) P E := by
  unfold gc
  cases q : m as M with
  | ok a M' =>
    rw [q] at h
    obtain ⟨hp, ⟨tmp, cs', a', l', n', rfl⟩, hP⟩ := h
    obtain ⟨cs, a0, l, n, rfl⟩ := hM
    have hl : (st cs a0 l n rest fz).objs.length = rest.length + 1 := rfl
    have hfin : fin (rest.length + 1) (st cs' a' l' n' (rest ++ tmp) fz) a = a := by cases a <;> first | rfl | (simp [plain] at hp)
    have hc : Clean (rest.length + 1) (st cs a0 l n rest fz) (st cs' a' l' n' (rest ++ tmp) fz) := by
      refine ⟨rfl, by simp [st], fun k c hk hq => ?_⟩
      cases k with
      | zero =>
        have e : c = fd cs' a' l' n' := by
          have hq : some (fd cs' a' l' n') = some c := hq
          exact (Option.some.inj hq).symm
        exact .inr (e ▸ cl_fd _ _ _ _ _)
      | succ k =>
        have hq : (rest ++ tmp)[k]? = some c := hq
        rw [List.getElem?_append_left (by omega)] at hq
        exact .inl hq
    rw [hl]
    simp only [hfin, hc, plain_cl _ _ _ hp, and_self, if_true, wpR_ok]
    refine hP _ ⟨cs', a', l', n', ?_⟩
    simp only [AH.cut, st, List.take_succ_cons, List.take_left']
  | exc c fs M' => rw [q] at h; exact h.elim
  | stuck => rw [q] at h; exact h.elim
theorem Fs.of (cs : List Int) (a l n : Int) (rest : List AV) (fz : List Nat) : Fs rest fz (st cs a l n rest fz) := ⟨cs, a, l, n, rfl⟩
theorem Fs.ofT {rest : List AV} {fz : List Nat} {M : AH} (h : Fs rest fz M) : ∃ tmp, Fs (rest ++ tmp) fz M := ⟨[], by rwa [List.append_nil]⟩
noncomputable def dr_mix : SM := mThen (mSet 5 (mBin gMod (mBin gAdd (mBin gAdd (mBin gMod (mVar 4) (mC (.int 1000000007))) (mBin gMul (mC (.int 40503)) (mBin gIx (mVar 0) (mC (.str "count"))))) (mC (.int 17))) (mC (.int 2147483629)))) (mThen (mSet 5 (mBin gMod (mBin gAdd (mBin gAdd (mBin gMul (mVar 5) (mVar 5)) (mBin gMul (mC (.int 15485863)) (mBin gIx (mVar 0) (mC (.str "count"))))) (mC (.int 1))) (mC (.int 2147483587)))) (mRet (mBin gMod (mBin gDiv (mBin gMod (mBin gAdd (mBin gMul (mVar 5) (mVar 5)) (mBin gMul (mC (.int 7)) (mVar 5))) (mC (.int 2147483549))) (mC (.int 8))) (mVar 1))))
noncomputable def dr_tail : SM := mThen (mIf (mAnd (mBl (mBin gGe (mVar 4) (mBin gPow (mC (.int 10)) (mC (.int 18))))) (mBl (mBin gLt (mVar 3) (mCall gLen (mCons (mBin gIx (mVar 0) (mC (.str "cells"))) (mNil)))))) (mThen (mAsg (gPut (mVar 0) (mC (.str "left"))) (mBin gDiv (mVar 4) (mVar 1))) (mRet (mBin gMod (mVar 4) (mVar 1)))) (mNext)) (dr_mix)
noncomputable def dr_b : SM := mThen (mAsg (gPut (mVar 0) (mC (.str "count"))) (mBin gAdd (mBin gIx (mVar 0) (mC (.str "count"))) (mC (.int 1)))) (mThen (mIf (mBl (mBin gGt (mBin gIx (mVar 0) (mC (.str "left"))) (mC (.int 0)))) (mThen (mSet 2 (mBin gMod (mBin gIx (mVar 0) (mC (.str "left"))) (mVar 1))) (mThen (mAsg (gPut (mVar 0) (mC (.str "left"))) (mBin gDiv (mBin gIx (mVar 0) (mC (.str "left"))) (mVar 1))) (mRet (mVar 2)))) (mNext)) (mThen (mSet 3 (mBin gIx (mVar 0) (mC (.str "at")))) (mThen (mAsg (gPut (mVar 0) (mC (.str "at"))) (mBin gAdd (mVar 3) (mC (.int 1)))) (mThen (mSet 4 (mIfE (mBl (mBin gNe (mBin gIx (mVar 0) (mC (.str "cells"))) (mLst (mNil)))) (mBin gIx (mBin gIx (mVar 0) (mC (.str "cells"))) (mBin gMod (mVar 3) (mCall gLen (mCons (mBin gIx (mVar 0) (mC (.str "cells"))) (mNil))))) (mC (.int 3)))) (dr_tail)))))
noncomputable def m_draw : List AV → AH → Res AV := gc (mDef 2 4 dr_b)
theorem fmod_lt {i k : Int} (h : 0 < k) : 0 ≤ i.fmod k ∧ i.fmod k < k := ⟨Int.fmod_nonneg_of_pos i h, Int.fmod_lt_of_pos i h⟩
theorem mulOk_left {i j : Int} (h : -(2 ^ 64) < i ∧ i < 2 ^ 64) : mulOk i j := .inl h
abbrev NoE : Str → List (Str × AV) → AH → Prop := fun _ _ _ => False
abbrev Small (k : Int) (a : AV) : Prop := ∃ r : Int, a = .int r ∧ 0 ≤ r ∧ r < k
abbrev drP (rest : List AV) (fz : List Nat) (k : Int) : AV → AH → Prop := fun a M' => plain 60 a = true ∧ (∃ tmp, Fs (rest ++ tmp) fz M') ∧ ∀ M'', Fs rest fz M'' → Small k a ∧ Fs rest fz M''
theorem drP_ok {rest : List AV} {fz : List Nat} {k i : Int} (k0 : 0 < k) (cs : List Int) (a l n : Int) : drP rest fz k (.int (i.fmod k)) (st cs a l n rest fz) := ⟨rfl, (Fs.of _ _ _ _ _ _).ofT, fun M'' hF' => ⟨⟨_, rfl, (fmod_lt k0).1, (fmod_lt k0).2⟩, hF'⟩⟩
theorem lt31 {x : Int} (h : 0 ≤ x ∧ x < 2147483648) : -(2 ^ 64) < x ∧ x < 2 ^ 64 := by
  have e : (2147483648 : Int) < 2 ^ 64 := by decide
  have e2 : -(2 ^ 64) < (0 : Int) := by decide
  exact ⟨Int.lt_of_lt_of_le e2 h.1, Int.lt_trans h.2 e⟩
theorem w_mix {cs : List Int} {a l n k cell : Int} {rest : List AV} {fz : List Nat} {o2 o3 o5 : Option AV} (k0 : 0 < k) (k1 : k < 1073741824) :
    wpS (dr_mix [some (.ref 0), some (.int k), o2, o3, some (.int cell), o5] (st cs a l n rest fz)) (defD (drP rest fz k) NoE) := by
  unfold dr_mix
  simp only [wpS_then, wpS_set, w_bin, w_var4, w_var0, w_var1, w_var5, w_c, w_mod, w_mul, f_count, wpR_ok, v_addI, List.set_cons_succ, List.set_cons_zero, wpS_mret, w_div, defD_rt]
  have q1 := fmod_lt (i := cell.fmod 1000000007 + 40503 * n + 17) (k := 2147483629) (by omega)
  generalize (cell.fmod 1000000007 + 40503 * n + 17).fmod 2147483629 = x at q1 ⊢
  have q2 := fmod_lt (i := x * x + 15485863 * n + 1) (k := 2147483587) (by omega)
  generalize (x * x + 15485863 * n + 1).fmod 2147483587 = y at q2 ⊢
  refine ⟨by omega, mulOk_left (lt31 (by omega)), by omega, mulOk_left (lt31 (by omega)), mulOk_left (lt31 (by omega)), by omega, mulOk_left (lt31 (by omega)), mulOk_left (lt31 (by omega)), by omega, ⟨by omega, by omega⟩, by omega, ?_⟩
  exact drP_ok k0 _ _ _ _
theorem w_tail {cs : List Int} {a l n k cell at' : Int} {rest : List AV} {fz : List Nat} {o2 o5 : Option AV} (h0 : 0 ∉ fz) (k0 : 0 < k) (k1 : k < 1073741824) :
    wpS (dr_tail [some (.ref 0), some (.int k), o2, some (.int at'), some (.int cell), o5] (st cs a l n rest fz)) (defD (drP rest fz k) NoE) := by
  have kz : k ≠ 0 := by omega
  have ka : k.natAbs < 1073741824 := by omega
  unfold dr_tail
  simp only [wpS_then, wpS_if, w_and, w_bl, w_bin, w_var4, w_c, w_pow, wpR_ok, v_ordI]
  refine ⟨⟨by omega, by omega, by decide⟩, _, rfl, ?_⟩
  split
  · simp only [w_bin, w_var3, w_call, w_cons, w_nil, w_var0, w_c, f_cells, wpR_ok, v_lenL, v_ordI, w_bl]
    refine ⟨_, rfl, ?_⟩
    split
    · simp only [wpS_then, wpS_asg, w_bin, w_var4, w_var1, w_div, f_putLeft h0, wpS_mret, w_mod, defD_rt]
      exact ⟨⟨kz, ka⟩, kz, drP_ok k0 _ _ _ _⟩
    · simp only [wpS_mnext]
      exact w_mix k0 k1
  · simp only [Bool.false_eq_true, if_false, wpS_mnext]
    exact w_mix k0 k1
theorem w_draw {rest : List AV} {fz : List Nat} {M : AH} {E : Str → List (Str × AV) → AH → Prop} (h0 : 0 ∉ fz) (hM : Fs rest fz M) {k : Int} (k0 : 0 < k) (k1 : k < 1073741824) :
    wpR (m_draw [.ref 0, .int k] M) (fun x M' => Small k x ∧ Fs rest fz M') E := by
  refine wp_gcF hM ?_
  obtain ⟨cs, a, l, n, rfl⟩ := hM
  have kz : k ≠ 0 := by omega
  have ka : k.natAbs < 1073741824 := by omega
  refine wp_def rfl ?_
  unfold dr_b
  simp only [List.map_cons, List.map_nil, List.cons_append, List.nil_append, List.replicate, wpS_then, wpS_asg, w_bin, w_var0, w_c, f_count, wpR_ok, v_addI, f_putCount h0, wpS_if, w_bl, f_left, v_ordI, wpS_set, w_var1, w_mod]
  refine ⟨_, rfl, ?_⟩
  split
  · simp only [List.set_cons_succ, List.set_cons_zero, f_left, wpR_ok, w_div, w_mod, wpS_asg, w_bin, w_var0, w_var1, w_c, f_putLeft h0, wpS_mret, w_var2, defD_rt, wpS_then]
    exact ⟨kz, ⟨kz, ka⟩, drP_ok k0 _ _ _ _⟩
  · simp only [wpS_mnext, wpS_then, wpS_set, wpS_asg, w_bin, w_var0, w_c, f_at, wpR_ok, List.set_cons_succ, List.set_cons_zero, w_var3, v_addI, f_putAt h0, w_ifE, w_bl, f_cells, w_call, w_nil, w_cons, v_lstD, wpR_sized, v_neL0 (plain_ints cs), v_lenL, w_mod]
    refine ⟨Nat.zero_le _, _, rfl, ?_⟩
    split
    · rename_i hc
      have hne : cs ≠ [] := by
        intro z
        subst z
        simp at hc
      have hl : (0 : Int) < (cs.map AV.int).length := by
        rw [List.length_map]
        have := List.length_pos_iff.mpr hne
        omega
      obtain ⟨v, hv, hm⟩ := at_mem (xs := cs.map AV.int) (fmod_lt (i := a) hl).1 (fmod_lt (i := a) hl).2
      obtain ⟨cell, _, rfl⟩ := List.mem_map.mp hm
      simp only [w_ixL, hv]
      exact ⟨by omega, _, rfl, w_tail h0 k0 k1⟩
    · exact w_tail h0 k0 k1
theorem d_draw {rest : List AV} {fz : List Nat} {M : AH} {P : AV → AH → Prop} {E : Str → List (Str × AV) → AH → Prop} (h0 : 0 ∉ fz) (hM : Fs rest fz M) {k : Int} (k0 : 0 < k) (k1 : k < 1073741824)
    (q : ∀ r M', 0 ≤ r → r < k → Fs rest fz M' → P (.int r) M') : wpR (m_draw [.ref 0, .int k] M) P E :=
  (w_draw (E := E) h0 hM k0 k1).imp (fun _ M' ⟨⟨r, e, r0, r1⟩, h⟩ => e ▸ q r M' r0 r1 h) fun _ _ _ h => h
end Px

namespace Px
open PySem hiding Env plain
open L2 Mx StrLaws
theorem lcl_map {α : Type} {l0 : List AV} {t : TMt} {c : BM} {el : EM} {G : Env} {M : AH} (e : α → AV) (p : α → Bool) (f : α → AV) :
    ∀ (xs : List α) (acc : List AV), acc.length + xs.length ≤ 16777216 →
    (∀ x ∈ xs, ∃ G1, t (e x) G M = .ok G1 M ∧ c G1 M = .ok (p x) M ∧ (p x = true → el G1 M = .ok (f x) M)) →
    lcl ⟨l0, none⟩ t c el G (xs.map e) acc M = .ok (acc ++ (xs.filter p).map f) M
  | [], acc, _, _ => by simp [lcl_nil]
  | a :: r, acc, hn, h => by
    obtain ⟨G1, h1, h2, h3⟩ := h a (by simp)
    simp only [List.length_cons] at hn
    simp only [List.map_cons, lcl_cons, h1, h2]
    by_cases hp : p a = true
    · simp only [hp, if_true, h3 hp]
      rw [lcl_map e p f r _ (by simp; omega) fun b hb => h b (by simp [hb])]
      unfold sized
      rw [if_pos (by omega)]
      simp [hp]
    · simp only [hp, if_false]
      rw [lcl_map e p f r _ (by omega) fun b hb => h b (by simp [hb])]
      simp [hp]
abbrev chrA (c : Nat) : AV := .str ⟨#[c]⟩
def low (c : Nat) : Bool := decide (97 ≤ c) && decide (c ≤ 122)
end Px

namespace Px
open PySem hiding Env plain
open L2 Mx StrLaws
structure Tx (P : Nat → Prop) (n : Nat) (x : Str) : Prop where
  len : x.length ≤ n
  all : ∀ c ∈ x.cps.toList, P c
abbrev AnyC (c : Nat) : Prop := c < 16 ^ 8
theorem Tx.mono {P Q : Nat → Prop} {n m : Nat} {x : Str} (h : Tx P n x) (hn : n ≤ m) (hp : ∀ c, P c → Q c) : Tx Q m x := ⟨Nat.le_trans h.len hn, fun c hc => hp c (h.all c hc)⟩
theorem tx_app {P : Nat → Prop} {n m : Nat} {x y : Str} (h : Tx P n x) (g : Tx P m y) : Tx P (n + m) (x ++ y) := by
  have := h.len
  have := g.len
  refine ⟨by rw [strLen_append]; omega, fun c hc => ?_⟩
  have hc : c ∈ (x.cps ++ y.cps).toList := hc
  rw [Array.toList_append] at hc
  rcases List.mem_append.mp hc with z | z
  · exact h.all c z
  · exact g.all c z
theorem tx_chr {P : Nat → Prop} {c : Nat} (h : P c) : Tx P 1 ⟨#[c]⟩ := ⟨Nat.le_refl _, fun d hd => by
  have e : d = c := by simpa using hd
  exact e ▸ h⟩
theorem cut_mem {z : Str} {lo hi : Option Int} {c : Nat} (h : c ∈ (cutS z lo hi).cps.toList) : c ∈ z.cps.toList := List.mem_of_mem_drop (List.mem_of_mem_take h)
theorem cut_len (z : Str) (lo hi : Option Int) : (cutS z lo hi).length = HT.sIx z.length z.length hi - HT.sIx z.length 0 lo := by
  have h2 : HT.sIx z.length z.length hi ≤ z.length := HT.sIx_le _ _ (Nat.le_refl _) _
  show ((z.cps.toList.drop (HT.sIx z.length 0 lo)).take (HT.sIx z.length z.length hi - HT.sIx z.length 0 lo)).toArray.size = _
  rw [List.size_toArray, List.length_take, List.length_drop]
  show min _ (z.length - _) = _
  omega
theorem cut_le (z : Str) (lo hi : Option Int) : (cutS z lo hi).length ≤ z.length := by
  rw [cut_len]
  have h2 : HT.sIx z.length z.length hi ≤ z.length := HT.sIx_le _ _ (Nat.le_refl _) _
  omega
theorem tx_cut {P : Nat → Prop} {n : Nat} {x : Str} (h : Tx P n x) (lo hi : Option Int) : Tx P n (cutS x lo hi) := ⟨Nat.le_trans (cut_le _ _ _) h.len, fun c hc => h.all c (cut_mem hc)⟩
theorem tx_join {P : Nat → Prop} {k : Nat} : ∀ {ys : List Str}, (∀ y ∈ ys, Tx P k y) → Tx P (k * ys.length) (Str.join "" ys)
  | [], _ => ⟨by simp [Str.join, Str.empty, Str.length], fun c hc => by simp [Str.join, Str.empty] at hc⟩
  | [y], h => by
    have := h y (by simp)
    simpa [Str.join] using this
  | x :: z :: r, h => by
    have h1 := h x (by simp)
    have ih := tx_join (ys := z :: r) fun y hy => h y (by simp [hy])
    have e0 : Tx P 0 ("" : Str) := ⟨by decide, fun c hc => by
      have e : ("" : Str).cps.toList = [] := by decide
      rw [e] at hc
      cases hc⟩
    have := tx_app (tx_app h1 e0) ih
    simp only [List.length_cons, Nat.mul_succ] at this ⊢
    exact this.mono (by omega) fun _ h => h
theorem strsOf_map : ∀ ys : List Str, strsOf (ys.map .str) = some ys
  | [] => rfl
  | y :: r => by simp [strsOf, strsOf_map r]
theorem v_join {P : Nat → Prop} {k : Nat} {ys : List Str} {M : AH} (h : ∀ y ∈ ys, Tx P k y) (hl : k * ys.length ≤ 16777216) : gJoin (.str "") [.lst (ys.map .str)] M = .ok (.str (Str.join "" ys)) M := by
  have e : itemsOf M (.lst (ys.map .str)) = some (ys.map .str) := rfl
  have e0 : ("" : Str).length = 0 := by decide
  have hs := sum_le (fun y : Str => y.length) k ys fun y hy => (h y hy).len
  simp only [gJoin, e, strsOf_map]
  rw [if_pos (by rw [e0]; omega), TL.join_eq]
theorem Tx.sh {n : Nat} {x : Str} (h : Tx AnyC n x) : Sh 0 (10 * n + 2) (.str x) := by
  have := h.len
  exact (sh_str h.all).mono (Nat.le_refl _) (by omega)
def TxA (P : Nat → Prop) (n : Nat) (a : AV) : Prop := ∃ x, a = .str x ∧ Tx P n x
def Sgs (P : Nat → Prop) (k : Nat) (acc : List AV) : Prop := ∃ ys : List Str, acc = ys.map .str ∧ ∀ y ∈ ys, Tx P k y
theorem Sgs.nil {P : Nat → Prop} {k : Nat} : Sgs P k [] := ⟨[], rfl, by simp⟩
theorem Sgs.snoc {P : Nat → Prop} {k : Nat} {acc : List AV} {a : AV} (h : Sgs P k acc) (g : TxA P k a) : Sgs P k (acc ++ [a]) := by
  obtain ⟨ys, rfl, h⟩ := h
  obtain ⟨x, rfl, g⟩ := g
  refine ⟨ys ++ [x], by simp, fun y hy => ?_⟩
  rcases List.mem_append.mp hy with z | z
  · exact h y z
  · rw [List.mem_singleton.mp z]
    exact g
theorem w_join {P : Nat → Prop} {k n : Nat} {acc : List AV} {M : AH} {Q : AV → AH → Prop} {E : Str → List (Str × AV) → AH → Prop} (h : Sgs P k acc) (hl : acc.length ≤ n) (hk : k * n ≤ 16777216) (q : ∀ x, Tx P (k * n) x → Q (.str x) M) : wpR (gJoin (.str "") [.lst acc] M) Q E := by
  obtain ⟨ys, rfl, h⟩ := h
  rw [List.length_map] at hl
  have hm : k * ys.length ≤ k * n := Nat.mul_le_mul_left _ hl
  rw [v_join h (by omega), wpR_ok]
  exact q _ ((tx_join h).mono hm fun _ h => h)
theorem w_sign {P : Nat → Prop} {n : Nat} {z : Str} {i : Int} {M : AH} {Q : AV → AH → Prop} {E : Str → List (Str × AV) → AH → Prop} (h : Tx P n z) (hn : n ≤ 16777216) (h0 : 0 ≤ i) (h1 : i < z.length) (q : ∀ c, P c → Q (chrA c) M) : wpR (gIx (.str z) (.int i) M) Q E := by
  have := h.len
  rw [w_ixS (by omega)]
  obtain ⟨c, hc, hm⟩ := at_mem (xs := z.cps.toList) h0 (by rw [Array.length_toList]; exact h1)
  exact ⟨c, hc, q c (h.all c hm)⟩
theorem w_one {xs : List AV} {i : Int} {M : AH} {Q : AV → AH → Prop} {E : Str → List (Str × AV) → AH → Prop} (h0 : 0 ≤ i) (h1 : i < xs.length) (q : ∀ a ∈ xs, Q a M) : wpR (gIx (.lst xs) (.int i) M) Q E := by
  rw [w_ixL]
  obtain ⟨c, hc, hm⟩ := at_mem (xs := xs) h0 h1
  exact ⟨c, hc, q c hm⟩
end Px

namespace Px
open PySem hiding Env plain
open L2 Mx StrLaws
section
variable {rest : List AV} {fz : List Nat} {M : AH} {P : AV → AH → Prop} {E : Str → List (Str × AV) → AH → Prop} {i : Nat} {xs : List AV}
theorem Fs.push (h : Fs rest fz M) (c : AV) : Fs (rest ++ [c]) fz ⟨M.objs ++ [c], M.fz⟩ := by
  obtain ⟨cs, a, l, n, rfl⟩ := h
  exact ⟨cs, a, l, n, rfl⟩
theorem Fs.get (h : Fs rest fz M) (i : Nat) : M.objs[i + 1]? = rest[i]? := by
  obtain ⟨cs, a, l, n, rfl⟩ := h
  rfl
theorem Fs.set (h : Fs rest fz M) (i : Nat) (c : AV) : Fs (rest.set i c) fz ⟨M.objs.set (i + 1) c, M.fz⟩ := by
  obtain ⟨cs, a, l, n, rfl⟩ := h
  exact ⟨cs, a, l, n, rfl⟩
theorem Fs.fzs (h : Fs rest fz M) : M.fz = fz := by
  obtain ⟨cs, a, l, n, rfl⟩ := h
  rfl
theorem f_tyL (h : Fs rest fz M) (hx : rest[i]? = some (.lst xs)) : tyL M (.ref (i + 1)) = true := by
  have e : M.objs[i + 1]? = some (.lst xs) := by rw [h.get, hx]
  simp [tyL, lstR, e]
theorem f_append (h : Fs rest fz M) (hx : rest[i]? = some (.lst xs)) {y : AV} (hl : xs.length + 1 ≤ 16777216) (q : ∀ M', Fs (rest.set i (.lst (xs ++ [y]))) fz M' → P .non M') : wpR (gAppend (.ref (i + 1)) [y] M) P E := by
  have e : M.objs[i + 1]? = some (.lst xs) := by rw [h.get, hx]
  simp only [gAppend, e, wpR_sized, wpR_ok]
  exact ⟨hl, q _ (h.set i _)⟩
end
theorem Fs.tmp {rest : List AV} {fz : List Nat} {M : AH} {l : List AV} (h : Fs (rest ++ l) fz M) : ∃ tmp, Fs (rest ++ tmp) fz M := ⟨l, h⟩
@[simp] theorem w_kNil {G : Env} {M : AH} {P : List (Key × AV) → AH → Prop} {E : Str → List (Str × AV) → AH → Prop} : wpR (kNil G M) P E = P [] M := byrfl rfl
@[simp] theorem w_kCons {G : Env} {M : AH} {P : List (Key × AV) → AH → Prop} {E : Str → List (Str × AV) → AH → Prop} (k : Key) (m : EM) (n : KM) : wpR (kCons k m n G M) P E = wpR (m G M) (fun a M1 => wpR (n G M1) (fun r M2 => P ((k, a) :: r) M2) E) E := by
  unfold kCons
  simp
@[simp] theorem w_disp {G : Env} {M : AH} {P : AV → AH → Prop} {E : Str → List (Str × AV) → AH → Prop} (n : KM) : wpR (mDisp n G M) P E = wpR (n G M) (fun kvs M1 => kvs.length ≤ 15 ∧ P (.ref M1.objs.length) ⟨M1.objs ++ [.dK (mergeA kvs)], M1.fz⟩) E := by
  unfold mDisp
  rw [wpR_bind]
  congr 1
  funext kvs M1
  by_cases h : kvs.length ≤ 15 <;> simp [h]
noncomputable def fe_b : SM := mRet (mDisp (kCons (.inr "cells") (mCall gListV (mCons (mSl gSl (mVar 0) (mNoPart) (mPart (mC (.int 63)))) (mNil))) (kCons (.inr "at") (mC (.int 0)) (kCons (.inr "left") (mC (.int 0)) (kCons (.inr "count") (mC (.int 0)) (kNil))))))
noncomputable def m_feed : List AV → AH → Res AV := gc (mDef 1 0 fe_b)
theorem fe_merge (cs : List Int) : mergeA [(.inr ("cells" : Str), .lst (cs.map .int)), (.inr ("at" : Str), .int 0), (.inr ("left" : Str), .int 0), (.inr ("count" : Str), .int 0)] = fdK cs 0 0 0 := by kernel_rfl
theorem cutA_map (cs : List Int) (l h : Option Int) : ∃ ds : List Int, cutA (cs.map AV.int) l h = ds.map .int := by
  unfold cutA
  rw [← List.map_drop, ← List.map_take]
  exact ⟨_, rfl⟩
theorem w_feed {ns : List Int} {P : AV → AH → Prop} {E : Str → List (Str × AV) → AH → Prop} (q : ∀ M, Fs [] [] M → P (.ref 0) M) : wpR (m_feed [.fro (ns.map .int)] ⟨[], []⟩) P E := by
  obtain ⟨ds, hd⟩ := cutA_map ns none (some 63)
  have h : wpR (mDef 1 0 fe_b [.fro (ns.map .int)] ⟨[], []⟩) (fun a M => a = .ref 0 ∧ M = ⟨[.dK (fdK ds 0 0 0)], []⟩) NoE := by
    refine wp_def rfl ?_
    unfold fe_b
    simp -implicitDefEqProofs only [List.map_cons, List.map_nil, List.cons_append, List.nil_append, List.replicate, wpS_mret, w_disp, w_kCons, w_kNil, w_call, w_cons, w_nil, w_sl, w_noPart, w_part, w_var0, w_c, wpR_ok, v_slF, v_listL, hd, AV.int.injEq, exists_eq_left', defD_rt, fe_merge]
    exact ⟨by simp, rfl, trivial⟩
  unfold m_feed gc
  cases e : mDef 1 0 fe_b [.fro (ns.map .int)] ⟨[], []⟩ with
  | ok a M =>
    rw [e] at h
    obtain ⟨rfl, rfl⟩ := h
    have hc : cl 0 (fin 0 ⟨[.dK (fdK ds 0 0 0)], []⟩ (.ref 0)) = false := rfl
    simp only [List.length_nil, hc, Bool.false_eq_true, and_false, if_false, wpR_ok]
    exact q _ (Fs.of ds 0 0 0 [] [])
  | exc c fs M => rw [e] at h; exact h.elim
  | stuck => rw [e] at h; exact h.elim
theorem law_of {m : List AV → AH → Res AV} {as : List AV} {M : AH} (h : wpR (m as M) (fun a _ => a = .bl true) NoE) : ∃ M', gc m as M = .ok (.bl true) M' := by
  unfold gc
  cases e : m as M with
  | ok a M' =>
    rw [e] at h
    have h : a = .bl true := h
    subst h
    simp only
    split
    · exact ⟨_, rfl⟩
    · exact ⟨_, rfl⟩
  | exc c fs M => rw [e] at h; exact h.elim
  | stuck => rw [e] at h; exact h.elim
end Px

namespace Px
open PySem hiding Env plain
open L2 Mx StrLaws PySem.W
abbrev Nm := Int × Str
def nameA (n : Nm) : AV := .tup [.int n.1, .str n.2]
def nameK (n : Nm) : List Key := [.inl n.1, .inr n.2]
theorem nameK_inj {a b : Nm} (h : nameK a = nameK b) : a = b := by
  obtain ⟨i, x⟩ := a
  obtain ⟨j, y⟩ := b
  simp only [nameK, List.cons.injEq, Sum.inl.injEq, Sum.inr.injEq, and_true] at h
  rw [h.1, h.2]
theorem keyT_name (n : Nm) : keyT (nameA n) = some (nameK n) := rfl
theorem plain_name (n : Nm) : plain 60 (nameA n) = true := rfl
def nlt (a b : Nm) : Bool := if a.1 = b.1 then (if a.2 = b.2 then false else decide (a.2.cps.toList < b.2.cps.toList)) else decide (a.1 < b.1)
theorem nlt_data (a b : Nm) : dataLt (toD (nameA a)) (toD (nameA b)) = nlt a b := by
  have h1 : alike (PyData.int a.1) (.int b.1) = true := by simp only [alike]
  have h2 : alike (PyData.str a.2) (.str b.2) = true := by simp only [alike]
  show dataLt (.tuple [.int a.1, .str a.2]) (.tuple [.int b.1, .str b.2]) = _
  rw [dataLt_pair h1 h2, dataLt_int, dataLt_str]
  simp only [PyData.eqv, beq_iff_eq]
  rfl
noncomputable def sortN (L : List Nm) : List Nm := L.mergeSort fun a b => !nlt b a
theorem sortA_names (L : List Nm) : sortA (L.map nameA) = (sortN L).map nameA := by
  unfold sortA sortN
  refine (List.map_mergeSort (f := nameA) (r := fun a b => !nlt b a) (s := dataLe false toD) fun a _ b _ => ?_).symm
  rw [← nlt_data]
  rfl
theorem sortOk_names (L : List Nm) : sortOk (L.map nameA) = true := by
  have h1 : (L.map nameA).all (plain 60) = true := by
    simp only [List.all_map, List.all_eq_true]
    exact fun n _ => plain_name n
  have h2 : likeA (L.map nameA) = true := by
    simp only [likeA, List.all_map, List.all_eq_true, Function.comp]
    intro a _ b _
    show alike (.tuple [.int a.1, .str a.2]) (.tuple [.int b.1, .str b.2]) = true
    simp [alike, alikeAll]
  have h3 : (L.map nameA).all tup1 = true := by
    simp only [List.all_map, List.all_eq_true]
    exact fun n _ => rfl
  simp [sortOk, h1, h2, h3]
theorem mem_sortN {L : List Nm} {n : Nm} : n ∈ sortN L ↔ n ∈ L := List.mem_mergeSort
theorem len_sortN (L : List Nm) : (sortN L).length = L.length := List.length_mergeSort _
theorem aeq_name (a b : Nm) : aeq (nameA a) (nameA b) = decide (a = b) := by
  show PyData.eqv (.tuple [.int a.1, .str a.2]) (.tuple [.int b.1, .str b.2]) = _
  simp only [PyData.eqv, PyData.eqvAll, Bool.and_true]
  rw [Bool.eq_iff_iff]
  simp only [Bool.and_eq_true, beq_iff_eq, decide_eq_true_eq]
  constructor
  · rintro ⟨h1, h2⟩
    exact Prod.ext h1 h2
  · rintro rfl
    exact ⟨rfl, rfl⟩
theorem v_inN (neg : Bool) (n : Nm) (L : List Nm) {M : AH} : gIn neg (nameA n) (.lst (L.map nameA)) M = .ok (.bl (if neg then !decide (n ∈ L) else decide (n ∈ L))) M := by
  have h1 : (L.map nameA).all (plain 60) = true := by
    simp only [List.all_map, List.all_eq_true]
    exact fun n _ => plain_name n
  have h2 : ((L.map nameA).any fun z => aeq z (nameA n)) = decide (n ∈ L) := by
    rw [Bool.eq_iff_iff]
    simp only [List.any_map, List.any_eq_true, Function.comp, aeq_name, decide_eq_true_eq]
    exact ⟨fun ⟨x, hx, e⟩ => e ▸ hx, fun h => ⟨n, h, rfl⟩⟩
  have h3 : inA M (nameA n) (.lst (L.map nameA)) = some (decide (n ∈ L)) := by
    show (if plain 60 (nameA n) && (L.map nameA).all (plain 60) then some ((L.map nameA).any fun z => aeq z (nameA n)) else none) = _
    rw [plain_name, h1, h2]
    rfl
  unfold gIn
  rw [h3]
section
variable {α : Type} {f : α → Nm} {g : α → AV}
def byN (f : α → Nm) (g : α → AV) (w : List α) : List (List Key × AV) := w.map fun r => (nameK (f r), g r)
theorem keysT_byN (w : List α) : keysT (byN f g w) = (w.map f).map nameA := by
  simp only [keysT, byN, List.map_map]
  rfl
theorem getK_byN (w : List α) (n : Nm) : getK (byN f g w) (nameK n) = (w.find? fun r => decide (f r = n)).map g := by
  unfold getK byN
  rw [List.find?_map]
  have e : ((fun kv : List Key × AV => decide (kv.1 = nameK n)) ∘ fun r => (nameK (f r), g r)) = fun r => decide (f r = n) := by
    funext r
    apply decide_eq_decide.mpr
    exact ⟨nameK_inj, fun h => by show nameK (f r) = nameK n; rw [h]⟩
  rw [e]
  cases w.find? fun r => decide (f r = n) <;> rfl
theorem find_in {w : List α} {n : Nm} (h : n ∈ w.map f) : ∃ r, (w.find? fun r => decide (f r = n)) = some r ∧ r ∈ w ∧ f r = n := by
  cases e : w.find? fun r => decide (f r = n) with
  | none =>
    obtain ⟨r, hr, he⟩ := List.mem_map.mp h
    have := List.find?_eq_none.mp e r hr
    simp [he] at this
  | some r => exact ⟨r, rfl, List.mem_of_find?_eq_some e, by simpa using List.find?_some e⟩
theorem find_no {w : List α} {n : Nm} (h : n ∉ w.map f) : (w.find? fun r => decide (f r = n)) = none := by
  refine List.find?_eq_none.mpr fun r hr => ?_
  simp only [decide_eq_true_eq]
  exact fun e => h (List.mem_map.mpr ⟨r, hr, e⟩)
theorem getK_isSome (w : List α) (n : Nm) : (getK (byN f g w) (nameK n)).isSome = decide (n ∈ w.map f) := by
  rw [getK_byN]
  by_cases h : n ∈ w.map f
  · obtain ⟨r, e, _⟩ := find_in h
    simp [e, h]
  · simp [find_no h, h]
theorem setK_new {w : List α} {r : α} (h : f r ∉ w.map f) : setK (byN f g w) (nameK (f r)) (g r) = byN f g (w ++ [r]) := by
  have e : ((byN f g w).any fun kv => decide (kv.1 = nameK (f r))) = false := by
    rw [Bool.eq_false_iff]
    intro z
    obtain ⟨kv, hk, e⟩ := List.any_eq_true.mp z
    obtain ⟨q, hq, rfl⟩ := List.mem_map.mp hk
    exact h (List.mem_map.mpr ⟨q, hq, nameK_inj (of_decide_eq_true e)⟩)
  unfold setK
  rw [e]
  simp [byN]
end
def insN (L : List Nm) (n : Nm) : List Nm := if n ∈ L then L else L ++ [n]
theorem mem_insN {L : List Nm} {n m : Nm} : m ∈ insN L n ↔ m ∈ L ∨ m = n := by
  unfold insN
  by_cases h : n ∈ L
  · rw [if_pos h]
    exact ⟨.inl, fun z => z.elim id fun e => e ▸ h⟩
  · rw [if_neg h]
    simp
theorem nd_insN {L : List Nm} {n : Nm} (h : L.Nodup) : (insN L n).Nodup := by
  unfold insN
  by_cases q : n ∈ L
  · rw [if_pos q]
    exact h
  · rw [if_neg q, List.nodup_append]
    exact ⟨h, by simp, fun a ha b hb e => q (by rw [← List.mem_singleton.mp hb, ← e]; exact ha)⟩
abbrev trueK (L : List Nm) : List (List Key × AV) := byN id (fun _ => .bl true) L
theorem setK_true (L : List Nm) (n : Nm) : setK (trueK L) (nameK n) (.bl true) = trueK (insN L n) := by
  by_cases h : n ∈ L
  · have e : insN L n = L := if_pos h
    rw [e]
    have e1 : ((trueK L).any fun kv => decide (kv.1 = nameK n)) = true := List.any_eq_true.mpr ⟨(nameK n, .bl true), List.mem_map.mpr ⟨n, h, rfl⟩, by simp⟩
    unfold setK
    rw [if_pos e1]
    simp only [trueK, byN, List.map_map]
    refine List.map_congr_left fun m _ => ?_
    show (if nameK m = nameK n then (nameK m, AV.bl true) else (nameK m, .bl true)) = _
    by_cases q : nameK m = nameK n <;> simp [q]
  · have e : insN L n = L ++ [n] := if_neg h
    rw [e]
    exact setK_new (f := id) (g := fun _ => AV.bl true) (w := L) (r := n) (by simpa using h)
theorem nd_len {α : Type} [DecidableEq α] : ∀ (L D : List α), L.Nodup → (∀ x ∈ L, x ∈ D) → L.length ≤ D.length
  | [], D, _, _ => by simp
  | a :: r, D, hn, h => by
    have ha := h a (by simp)
    have := nd_len r (D.erase a) (List.nodup_cons.mp hn).2 fun x hx => by
      have ne : x ≠ a := fun e => (List.nodup_cons.mp hn).1 (e ▸ hx)
      exact (List.mem_erase_of_ne ne).mpr (h x (by simp [hx]))
    rw [List.length_erase_of_mem ha] at this
    have hp := List.length_pos_of_mem ha
    simp only [List.length_cons]
    omega
end Px

namespace Px
open PySem hiding Env plain
open L2 Mx StrLaws PySem.W
section
variable {rest : List AV} {fz : List Nat} {M : AH} {P : AV → AH → Prop} {E : Str → List (Str × AV) → AH → Prop} {G : Env}
theorem f_dctT {i : Nat} {kvs : List (List Key × AV)} (h : Fs rest fz M) (hx : rest[i]? = some (.dT kvs)) : dctT M (.ref (i + 1)) = some kvs := by
  have e : M.objs[i + 1]? = some (.dT kvs) := by rw [h.get, hx]
  simp [dctT, e]
theorem f_dctK {i : Nat} {kvs : List (Key × AV)} (h : Fs rest fz M) (hx : rest[i]? = some (.dK kvs)) : dctK M (.ref (i + 1)) = some kvs := by
  have e : M.objs[i + 1]? = some (.dK kvs) := by rw [h.get, hx]
  simp [dctK, e]
theorem f_dctK_T {i : Nat} {kvs : List (List Key × AV)} (h : Fs rest fz M) (hx : rest[i]? = some (.dT kvs)) : dctK M (.ref (i + 1)) = none := by
  have e : M.objs[i + 1]? = some (.dT kvs) := by rw [h.get, hx]
  simp [dctK, e]
theorem f_lstR_T {i : Nat} {kvs : List (List Key × AV)} (h : Fs rest fz M) (hx : rest[i]? = some (.dT kvs)) : lstR M (.ref (i + 1)) = none := by
  have e : M.objs[i + 1]? = some (.dT kvs) := by rw [h.get, hx]
  simp [lstR, e]
theorem f_ixT {i : Nat} {kvs : List (List Key × AV)} {b v : AV} {k : List Key} (h : Fs rest fz M) (hx : rest[i]? = some (.dT kvs)) (hk : keyT b = some k) (hv : getK kvs k = some v) : gIx (.ref (i + 1)) b M = .ok v M := by
  have e : ixA M (.ref (i + 1)) b = some v := by
    show ixO M (.ref (i + 1)) b = some v
    simp only [ixO, f_dctK_T h hx, f_dctT h hx, hk, Option.bind_some, hv]
  simp only [gIx, e]
theorem f_ixK {i : Nat} {kvs : List (Key × AV)} {b v : AV} {k : Key} (h : Fs rest fz M) (hx : rest[i]? = some (.dK kvs)) (hk : keyK b = some k) (hv : getK kvs k = some v) : gIx (.ref (i + 1)) b M = .ok v M := by
  have e : ixA M (.ref (i + 1)) b = some v := by
    show ixO M (.ref (i + 1)) b = some v
    simp only [ixO, f_dctK h hx, hk, Option.bind_some, hv]
  simp only [gIx, e]
theorem f_inT {i : Nat} {kvs : List (List Key × AV)} {b : AV} {k : List Key} {neg : Bool} (h : Fs rest fz M) (hx : rest[i]? = some (.dT kvs)) (hk : keyT b = some k) : gIn neg b (.ref (i + 1)) M = .ok (.bl (if neg then !(getK kvs k).isSome else (getK kvs k).isSome)) M := by
  have e : inA M b (.ref (i + 1)) = some (getK kvs k).isSome := by
    simp only [inA, f_dctK_T h hx, f_dctT h hx, hk, Option.map_some]
  simp only [gIn, e]
theorem f_inK {i : Nat} {kvs : List (Key × AV)} {b : AV} {k : Key} {neg : Bool} (h : Fs rest fz M) (hx : rest[i]? = some (.dK kvs)) (hk : keyK b = some k) : gIn neg b (.ref (i + 1)) M = .ok (.bl (if neg then !(getK kvs k).isSome else (getK kvs k).isSome)) M := by
  have e : inA M b (.ref (i + 1)) = some (getK kvs k).isSome := by
    simp only [inA, f_dctK h hx, hk, Option.map_some]
  simp only [gIn, e]
theorem f_sortT {i : Nat} {kvs : List (List Key × AV)} (h : Fs rest fz M) (hx : rest[i]? = some (.dT kvs)) (hs : sortOk (keysT kvs) = true) : gSorted [.ref (i + 1)] M = .ok (.lst (sortA (keysT kvs))) M := by
  simp only [gSorted, f_lstR_T h hx, f_dctT h hx, hs, if_true]
theorem f_sortN {α : Type} {f : α → Nm} {g : α → AV} {i : Nat} {w : List α} (h : Fs rest fz M) (hx : rest[i]? = some (.dT (byN f g w))) : gSorted [.ref (i + 1)] M = .ok (.lst ((sortN (w.map f)).map nameA)) M := by
  rw [f_sortT h hx (by rw [keysT_byN]; exact sortOk_names _), keysT_byN, sortA_names]
theorem f_putT {i : Nat} {kvs : List (List Key × AV)} {v : AV} {mo mi : EM} {b : AV} {k : List Key} {Q : Env → AH → Prop} (h : Fs rest [] M) (hx : rest[i]? = some (.dT kvs)) (hl : kvs.length < 16777216)
    (ho : mo G M = .ok (.ref (i + 1)) M) (hi : mi G M = .ok b M) (hk : keyT b = some k) (q : ∀ M', Fs (rest.set i (.dT (setK kvs k v))) [] M' → Q G M') : wpR (gPut mo mi v G M) Q E := by
  have e : M.objs[i + 1]? = some (.dT kvs) := by rw [h.get, hx]
  have e2 : aSet (.ref (i + 1)) b v M = some ⟨M.objs.set (i + 1) (.dT (setK kvs k v)), M.fz⟩ := by
    simp only [aSet, e, hk, Option.map_some]
    rw [if_neg]
    rw [h.fzs]
    simp [hl]
  simp only [gPut, ho, hi, e2, wpR_ok]
  exact q _ (h.set i _)
theorem f_putK {i : Nat} {kvs : List (Key × AV)} {v : AV} {mo mi : EM} {b : AV} {k : Key} {Q : Env → AH → Prop} (h : Fs rest [] M) (hx : rest[i]? = some (.dK kvs)) (hl : kvs.length < 16777216)
    (ho : mo G M = .ok (.ref (i + 1)) M) (hi : mi G M = .ok b M) (hk : keyK b = some k) (q : ∀ M', Fs (rest.set i (.dK (setK kvs k v))) [] M' → Q G M') : wpR (gPut mo mi v G M) Q E := by
  have e : M.objs[i + 1]? = some (.dK kvs) := by rw [h.get, hx]
  have e2 : aSet (.ref (i + 1)) b v M = some ⟨M.objs.set (i + 1) (.dK (setK kvs k v)), M.fz⟩ := by
    simp only [aSet, e, hk, Option.map_some]
    rw [if_neg]
    rw [h.fzs]
    simp [hl]
  simp only [gPut, ho, hi, e2, wpR_ok]
  exact q _ (h.set i _)
@[simp] theorem w_dictT : wpR (mDictT G M) P E = P (.ref M.objs.length) ⟨M.objs ++ [.dT []], M.fz⟩ := byrfl rfl
@[simp] theorem w_dictK : wpR (mDictK G M) P E = P (.ref M.objs.length) ⟨M.objs ++ [.dK []], M.fz⟩ := byrfl rfl
@[simp] theorem w_callK (g : List AV → List AV → AH → Res AV) (n k : AM) : wpR (mCallK g n k G M) P E = wpR (n G M) (fun as M1 => wpR (k G M1) (fun zs M2 => wpR (g as zs M2) P E) E) E := by
  unfold mCallK
  simp
theorem f_seq {i : Nat} {xs : List AV} (h : Fs rest fz M) (hx : rest[i]? = some (.lst xs)) : seqOf M (.ref (i + 1)) = some ⟨xs, some (i + 1)⟩ := by
  have e : M.objs[i + 1]? = some (.lst xs) := by rw [h.get, hx]
  simp [seqOf, e]
theorem f_held {i : Nat} {xs : List AV} (h : Fs rest fz M) (hx : rest[i]? = some (.lst xs)) : (Src.mk xs (some (i + 1))).held M := by
  show M.objs[i + 1]? = some (.lst xs)
  rw [h.get, hx]
end
theorem wp_loopH {S : Src} {t : TMt} {body : SM} {D : SD} (I : Nat → Env → AH → Prop) (hI : ∀ k G M, I k G M → S.held M) :
    ∀ (items : List AV) (k : Nat) (G : Env) (M : AH), I k G M →
    (∀ j a G M, items[j]? = some a → I (k + j) G M → wpR (t a G M) (fun G1 M1 => wpS (body G1 M1) ⟨I (k + j + 1), D.rt, D.ex, D.nx, I (k + j + 1)⟩) fun _ _ _ => False) →
    (∀ G M, I (k + items.length) G M → D.nx G M) → wpS (loop S t body items G M) D
  | [], k, G, M, h, _, hp => by
    have e : loop S t body [] G M = .next G M := if_pos (hI _ _ _ h)
    rw [e, wpS_next]
    exact hp _ _ h
  | a :: r, k, G, M, h, hs, hp => by
    have h1 := hs 0 a G M rfl h
    have ih := fun G' M' (hI' : I (k + 1) G' M') => wp_loopH (D := D) (t := t) (body := body) I hI r (k + 1) G' M' hI' (fun j b G2 M2 hb hI2 => by
      have q := hs (j + 1) b G2 M2 (by simpa using hb) (by rwa [show k + (j + 1) = k + 1 + j by omega])
      rwa [show k + (j + 1) = k + 1 + j by omega] at q) (fun G2 M2 hI2 => hp _ _ (by rwa [List.length_cons, show k + (r.length + 1) = k + 1 + r.length by omega]))
    have e : loop S t body (a :: r) G M = (match t a G M with
      | .ok G1 M1 => (match body G1 M1 with
        | .next G2 M2 => loop S t body r G2 M2
        | .cnt G2 M2 => loop S t body r G2 M2
        | .brk G2 M2 => .next G2 M2
        | r => r)
      | _ => .stuck) := if_pos (hI _ _ _ h)
    rw [e]
    cases q : t a G M with
    | ok G1 M1 =>
      rw [q] at h1
      simp only [wpR_ok] at h1
      show wpS (match body G1 M1 with
        | .next G2 M2 => loop S t body r G2 M2
        | .cnt G2 M2 => loop S t body r G2 M2
        | .brk G2 M2 => .next G2 M2
        | r => r) D
      cases q2 : body G1 M1 with
      | next G2 M2 => rw [q2] at h1; exact ih _ _ h1
      | cnt G2 M2 => rw [q2] at h1; exact ih _ _ h1
      | brk G2 M2 => rw [q2] at h1; exact h1
      | ret a M => rw [q2] at h1; exact h1
      | exc c fs G M => rw [q2] at h1; exact h1
      | stuck => rw [q2] at h1; exact h1
    | exc c fs M' => rw [q] at h1; exact h1.elim
    | stuck => rw [q] at h1; exact h1.elim
theorem wp_fold {σ α : Type} {S : Src} {t : TMt} {body : SM} {D : SD} (e : α → AV) (step : σ → α → σ) (I : σ → Env → AH → Prop) (hI : ∀ s G M, I s G M → S.held M) :
    ∀ (xs : List α) (s : σ) (G : Env) (M : AH), I s G M →
    (∀ s x G M, x ∈ xs → I s G M → wpR (t (e x) G M) (fun G1 M1 => wpS (body G1 M1) ⟨I (step s x), D.rt, D.ex, fun _ _ => False, I (step s x)⟩) fun _ _ _ => False) →
    (∀ G M, I (xs.foldl step s) G M → D.nx G M) → wpS (loop S t body (xs.map e) G M) D
  | [], s, G, M, h, _, hp => by
    have e : loop S t body [] G M = .next G M := if_pos (hI _ _ _ h)
    rw [List.map_nil, e, wpS_next]
    exact hp _ _ h
  | a :: r, s, G, M, h, hs, hp => by
    have h1 := hs s a G M (by simp) h
    have ih := fun G' M' (hI' : I (step s a) G' M') => wp_fold (D := D) (t := t) (body := body) e step I hI r (step s a) G' M' hI' (fun s2 b G2 M2 hb hI2 => hs s2 b G2 M2 (by simp [hb]) hI2) (fun G2 M2 hI2 => hp _ _ hI2)
    have el : loop S t body ((a :: r).map e) G M = (match t (e a) G M with
      | .ok G1 M1 => (match body G1 M1 with
        | .next G2 M2 => loop S t body (r.map e) G2 M2
        | .cnt G2 M2 => loop S t body (r.map e) G2 M2
        | .brk G2 M2 => .next G2 M2
        | r => r)
      | _ => .stuck) := if_pos (hI _ _ _ h)
    rw [el]
    cases q : t (e a) G M with
    | ok G1 M1 =>
      rw [q] at h1
      simp only [wpR_ok] at h1
      show wpS (match body G1 M1 with
        | .next G2 M2 => loop S t body (r.map e) G2 M2
        | .cnt G2 M2 => loop S t body (r.map e) G2 M2
        | .brk G2 M2 => .next G2 M2
        | r => r) D
      cases q2 : body G1 M1 with
      | next G2 M2 => rw [q2] at h1; exact ih _ _ h1
      | cnt G2 M2 => rw [q2] at h1; exact ih _ _ h1
      | brk G2 M2 => rw [q2] at h1; exact h1.elim
      | ret a M => rw [q2] at h1; exact h1
      | exc c fs G M => rw [q2] at h1; exact h1
      | stuck => rw [q2] at h1; exact h1
    | exc c fs M' => rw [q] at h1; exact h1.elim
    | stuck => rw [q] at h1; exact h1.elim
theorem wp_gcW {m : List AV → AH → Res AV} {as : List AV} {M : AH} {rest : List AV} {fz : List Nat} {P : AV → AH → Prop} {E : Str → List (Str × AV) → AH → Prop} (hM : Fs rest fz M)
    (h : wpR (m as M) (fun a M' => plain 60 a = true ∧ ∃ rest' tmp, rest'.length = rest.length ∧ Fs (rest' ++ tmp) fz M' ∧ (∀ c ∈ rest', cl (rest.length + 1) c = true) ∧ ∀ M'', Fs rest' fz M'' → P a M'') fun _ _ _ => False) : wpR (gc m as M) P E := by
  unfold gc
  cases q : m as M with
  | ok a M' =>
    rw [q] at h
    obtain ⟨hp, rest', tmp, hl', ⟨cs', a', l', n', rfl⟩, hcl, hP⟩ := h
    obtain ⟨cs, a0, l, n, rfl⟩ := hM
    have hl : (st cs a0 l n rest fz).objs.length = rest.length + 1 := rfl
    have hfin : fin (rest.length + 1) (st cs' a' l' n' (rest' ++ tmp) fz) a = a := by cases a <;> first | rfl | (simp [plain] at hp)
    have hc : Clean (rest.length + 1) (st cs a0 l n rest fz) (st cs' a' l' n' (rest' ++ tmp) fz) := by
      refine ⟨rfl, by simp [st, hl'], fun k c hk hq => ?_⟩
      cases k with
      | zero =>
        have e : c = fd cs' a' l' n' := by
          have hq : some (fd cs' a' l' n') = some c := hq
          exact (Option.some.inj hq).symm
        exact .inr (e ▸ cl_fd _ _ _ _ _)
      | succ k =>
        have hq : (rest' ++ tmp)[k]? = some c := hq
        rw [List.getElem?_append_left (by omega)] at hq
        exact .inr (hcl c (List.mem_of_getElem? hq))
    rw [hl]
    simp only [hfin, hc, plain_cl _ _ _ hp, and_self, if_true, wpR_ok]
    refine hP _ ⟨cs', a', l', n', ?_⟩
    simp only [AH.cut, st, List.take_succ_cons]
    rw [← hl', List.take_left]
  | exc c fs M' => rw [q] at h; exact h.elim
  | stuck => rw [q] at h; exact h.elim
end Px

namespace Px
open PySem hiding Env plain
open L2 Mx StrLaws PySem.W
noncomputable def words_b : SM := mThen (mSet 2 (mC (.str "abcdefghijklmnopqrstuvwxyz"))) (mThen (mSet 3 (mCall m_draw (mCons (mVar 0) (mCons (mC (.int 4)) (mNil))))) (mThen (mIf (mBl (mBin gEq (mVar 3) (mC (.int 0)))) (mThen (mSet 4 (mBin gIx (mVar 2) (mCall m_draw (mCons (mVar 0) (mCons (mC (.int 26)) (mNil)))))) (mRet (mBin gStep (mLcV (mLc [5] (mRng1 (mCons (mVar 1) (mNil))) (gNm 5) ((fun _ M => Res.ok true M)) (mBin gMul (mVar 4) (mBin gAdd (mVar 5) (mC (.int 1)))))) (mBin gSub (mC (.int 1)) (mBin gMul (mC (.int 2)) (mCall m_draw (mCons (mVar 0) (mCons (mC (.int 2)) (mNil))))))))) (mNext)) (mThen (mSet 6 (mMeth tyS gJoin (mC (.str "")) (mCons (mLcV (mLc [5] (mRng1 (mCons (mCall m_draw (mCons (mVar 0) (mCons (mC (.int 7)) (mNil)))) (mNil))) (gNm 5) ((fun _ M => Res.ok true M)) (mBin gIx (mVar 2) (mCall m_draw (mCons (mVar 0) (mCons (mC (.int 26)) (mNil))))))) (mNil)))) (mThen (mSet 7 (mCall m_draw (mCons (mVar 0) (mCons (mBin gAdd (mCall gLen (mCons (mVar 6) (mNil))) (mC (.int 1))) (mNil))))) (mThen (mSet 8 (mCall m_draw (mCons (mVar 0) (mCons (mC (.int 26)) (mNil))))) (mThen (mSet 9 (mBin gIx (mLst (mCons (mC (.int 1)) (mCons (mC (.int 3)) (mCons (mC (.int 5)) (mCons (mC (.int 7)) (mCons (mC (.int 9)) (mCons (mC (.int 25)) (mNil)))))))) (mCall m_draw (mCons (mVar 0) (mCons (mC (.int 6)) (mNil)))))) (mThen (mSet 10 (mLstR (mNil))) (mThen (mFor (mRng1 (mCons (mVar 1) (mNil))) (gNm 5) (mThen (mSet 11 (mBin gMul (mBin gIx (mVar 2) (mCall m_draw (mCons (mVar 0) (mCons (mC (.int 26)) (mNil))))) (mCall m_draw (mCons (mVar 0) (mCons (mC (.int 2)) (mNil)))))) (mThen (mSet 12 (mBin gIx (mVar 2) (mBin gMod (mBin gAdd (mVar 8) (mBin gMul (mVar 5) (mVar 9))) (mC (.int 26))))) (mExp (mMeth tyL gAppend (mVar 10) (mCons (mBin gAdd (mBin gAdd (mBin gAdd (mSl gSl (mVar 6) (mNoPart) (mPart (mVar 7))) (mVar 12)) (mSl gSl (mVar 6) (mPart (mVar 7)) (mNoPart))) (mVar 11)) (mNil))))))) (mRet (mVar 10))))))))))
noncomputable def m_words : List AV → AH → Res AV := gc (mDef 2 11 words_b)
noncomputable def deed_b : SM := mThen (mSet 4 (mC (.str "abcdefghijklmnopqrstuvwxyz "))) (mThen (mSet 5 (mMeth tyS gJoin (mC (.str "")) (mCons (mLcV (mLc [10] (mRng1 (mCons (mBin gAdd (mC (.int 1)) (mCall m_draw (mCons (mVar 0) (mCons (mC (.int 5)) (mNil))))) (mNil))) (gNm 10) ((fun _ M => Res.ok true M)) (mBin gIx (mVar 4) (mCall m_draw (mCons (mVar 0) (mCons (mC (.int 27)) (mNil))))))) (mNil)))) (mThen (mSet 6 (mCall m_draw (mCons (mVar 0) (mCons (mC (.int 6)) (mNil))))) (mThen (mSet 7 (mLcV (mLc [9] (mSeq (mVar 3)) (gNm 9) ((fun _ M => Res.ok true M)) (mBin gIx (mBin gIx (mBin gIx (mBin gIx (mVar 1) (mC (.str "changes"))) (mVar 9)) (mC (.int 3))) (mC (.int 0)))))) (mThen (mSet 8 (mLcV (mLc [10] (mRng1 (mCons (mCall gLen (mCons (mVar 3) (mNil))) (mNil))) (gNm 10) (mBl (mBin gEq (mBin gIx (mVar 7) (mVar 10)) (mC (.str "hang")))) (mBin gIx (mVar 3) (mVar 10))))) (mThen (mIf (mAnd (mBl (mBin gEq (mVar 6) (mC (.int 0)))) (mBl (mBin gGt (mCall gLen (mCons (mVar 2) (mNil))) (mC (.int 1))))) (mRet (mTup (mCons (mC (.str "join")) (mNil)))) (mNext)) (mThen (mIf (mAnd (mBl (mBin gEq (mVar 6) (mC (.int 1)))) (mAnd (mBl (mBin (gIn false) (mC (.str "put")) (mVar 7))) (mBl (mBin gLt (mCall gLen (mCons (mBin gIx (mVar 1) (mC (.str "hangs"))) (mNil))) (mC (.int 6)))))) (mRet (mTup (mCons (mC (.str "hang")) (mCons (mC (.int 0)) (mCons (mC (.int 1)) (mCons (mBin gIx (mLst (mCons (mC (.str "shut")) (mCons (mC (.str "wide")) (mNil)))) (mCall m_draw (mCons (mVar 0) (mCons (mC (.int 2)) (mNil))))) (mCons (mVar 5) (mNil)))))))) (mNext)) (mThen (mIf (mAnd (mBl (mBin gEq (mVar 6) (mC (.int 2)))) (mBl (mBin gNe (mVar 8) (mLst (mNil))))) (mRet (mTup (mCons (mC (.str "answer")) (mCons (mBin gIx (mVar 8) (mCall m_draw (mCons (mVar 0) (mCons (mCall gLen (mCons (mVar 8) (mNil))) (mNil))))) (mCons (mVar 5) (mNil)))))) (mNext)) (mRet (mTup (mCons (mC (.str "put")) (mCons (mC (.int 0)) (mCons (mVar 5) (mNil)))))))))))))
noncomputable def m_deed : List AV → AH → Res AV := gc (mDef 4 7 deed_b)
noncomputable def step_b : SM := mThen (mSet 3 (mBin gIx (mVar 2) (mCall m_draw (mCons (mVar 0) (mCons (mCall gLen (mCons (mVar 2) (mNil))) (mNil)))))) (mThen (mSet 4 (mCall gSorted (mCons (mBin gIx (mVar 1) (mC (.str "changes"))) (mNil)))) (mThen (mSet 5 (mIfE (mBl (mBin (gIn false) (mVar 3) (mBin gIx (mVar 1) (mC (.str "last"))))) (mLstR (mCons (mBin gIx (mBin gIx (mVar 1) (mC (.str "last"))) (mVar 3)) (mNil))) (mLstR (mNil)))) (mThen (mIf (mAnd (mBl (mBin gNe (mVar 4) (mLst (mNil)))) (mBl (mBin gLt (mCall m_draw (mCons (mVar 0) (mCons (mC (.int 5)) (mNil)))) (mC (.int 2))))) (mExp (mMeth tyL gAppend (mVar 5) (mCons (mBin gIx (mVar 4) (mCall m_draw (mCons (mVar 0) (mCons (mCall gLen (mCons (mVar 4) (mNil))) (mNil))))) (mNil)))) (mNext)) (mThen (mSet 6 (mDictT)) (mThen (mFor (mSeq (mVar 5)) (gNm 7) (mFor (mSeq (mBin gAdd (mBin gIx (mBin gIx (mVar 1) (mC (.str "knows"))) (mVar 7)) (mLst (mCons (mVar 7) (mNil))))) (gNm 8) (mAsg (gPut (mVar 6) (mVar 8)) (mC (.bl true))))) (mThen (mSet 9 (mCall gSorted (mCons (mVar 6) (mNil)))) (mThen (mSet 10 (mDictT)) (mThen (mFor (mSeq (mVar 9)) (gNm 8) (mFor (mSeq (mBin gIx (mBin gIx (mVar 1) (mC (.str "knows"))) (mVar 8))) (gNm 7) (mAsg (gPut (mVar 10) (mVar 7)) (mC (.bl true))))) (mThen (mSet 11 (mCall gTuple (mCons (mLcV (mLc [8] (mSeq (mVar 9)) (gNm 8) (mBl (mBin (gIn true) (mVar 8) (mVar 10))) (mVar 8))) (mNil)))) (mThen (mSet 12 (mTup (mCons (mBin gAdd (mC (.int 1)) (mCallK gMaxDf (mCons (mLcV (mLc [8] (mSeq (mVar 9)) (gNm 8) ((fun _ M => Res.ok true M)) (mBin gIx (mVar 8) (mC (.int 0))))) (mNil)) (mCons (mC (.int 0)) mNil))) (mCons (mVar 3) (mNil))))) (mThen (mSet 13 (mCall m_deed (mCons (mVar 0) (mCons (mVar 1) (mCons (mVar 11) (mCons (mVar 9) (mNil))))))) (mThen (mIf (mBl (mBin gEq (mBin gIx (mVar 13) (mC (.int 0))) (mC (.str "hang")))) (mExp (mMeth tyL gAppend (mBin gIx (mVar 1) (mC (.str "hangs"))) (mCons (mVar 12) (mNil)))) (mNext)) (mThen (mAsg (gPut (mBin gIx (mVar 1) (mC (.str "changes"))) (mVar 12)) (mTup (mCons (mVar 12) (mCons (mBin gIx (mVar 2) (mCall m_draw (mCons (mVar 0) (mCons (mCall gLen (mCons (mVar 2) (mNil))) (mNil))))) (mCons (mVar 11) (mCons (mVar 13) (mNil))))))) (mThen (mAsg (gPut (mBin gIx (mVar 1) (mC (.str "knows"))) (mVar 12)) (mVar 9)) (mAsg (gPut (mBin gIx (mVar 1) (mC (.str "last"))) (mVar 3)) (mVar 12))))))))))))))))
noncomputable def m_step : List AV → AH → Res AV := gc (mDef 3 11 step_b)
noncomputable def world_b : SM := mThen (mSet 3 (mDisp (kCons (.inr "changes") (mDictT) (kCons (.inr "knows") (mDictT) (kCons (.inr "last") (mDictK) (kCons (.inr "hangs") (mLstR (mNil)) (kNil))))))) (mThen (mFor (mRng1 (mCons (mVar 2) (mNil))) (gNm 4) (mExp (mCall m_step (mCons (mVar 0) (mCons (mVar 3) (mCons (mVar 1) (mNil))))))) (mRet (mVar 3)))
noncomputable def m_world : List AV → AH → Res AV := gc (mDef 3 2 world_b)
noncomputable def ledger_b : SM := mRet (mCall gTuple (mCons (mLcV (mLc [2] (mSeq (mCall gSorted (mCons (mBin gIx (mVar 0) (mC (.str "changes"))) (mNil)))) (gNm 2) (mBl (mBin (gIn false) (mVar 2) (mVar 1))) (mBin gIx (mBin gIx (mVar 0) (mC (.str "changes"))) (mVar 2)))) (mNil)))
noncomputable def m_ledger : List AV → AH → Res AV := gc (mDef 2 1 ledger_b)
section
variable {rest : List AV} {fz : List Nat} {M : AH} {P : AV → AH → Prop} {E : Str → List (Str × AV) → AH → Prop} {G : Env}
theorem wp_gcL {m : List AV → AH → Res AV} {as : List AV} (hM : Fs rest fz M)
    (h : wpR (m as M) (fun a M' => ∃ tmp, Fs (rest ++ tmp) fz M' ∧ ((plain 60 a = true ∧ ∀ M'', Fs rest fz M'' → P a M'') ∨ ∃ i xs, a = .ref (rest.length + 1 + i) ∧ tmp[i]? = some (.lst xs) ∧ (∀ x ∈ xs, plain 60 x = true) ∧ ∀ M'', Fs rest fz M'' → P (.lst xs) M'')) fun _ _ _ => False) : wpR (gc m as M) P E := by
  unfold gc
  cases q : m as M with
  | ok a M' =>
    rw [q] at h
    obtain ⟨tmp, ⟨cs', a', l', n', rfl⟩, h⟩ := h
    obtain ⟨cs, a0, l, n, rfl⟩ := hM
    have hl : (st cs a0 l n rest fz).objs.length = rest.length + 1 := rfl
    have hc : Clean (rest.length + 1) (st cs a0 l n rest fz) (st cs' a' l' n' (rest ++ tmp) fz) := by
      refine ⟨rfl, by simp [st], fun k c hk hq => ?_⟩
      cases k with
      | zero =>
        have e : c = fd cs' a' l' n' := by
          have hq : some (fd cs' a' l' n') = some c := hq
          exact (Option.some.inj hq).symm
        exact .inr (e ▸ cl_fd _ _ _ _ _)
      | succ k =>
        have hq : (rest ++ tmp)[k]? = some c := hq
        rw [List.getElem?_append_left (by omega)] at hq
        exact .inl hq
    have hcut : (st cs' a' l' n' (rest ++ tmp) fz).cut (rest.length + 1) = st cs' a' l' n' rest fz := by
      simp only [AH.cut, st, List.take_succ_cons, List.take_left']
    rw [hl]
    rcases h with ⟨hp, hP⟩ | ⟨i, xs, rfl, hi, hx, hP⟩
    · have hfin : fin (rest.length + 1) (st cs' a' l' n' (rest ++ tmp) fz) a = a := by cases a <;> first | rfl | (simp [plain] at hp)
      simp only [hfin, hc, plain_cl _ _ _ hp, and_self, if_true, wpR_ok, hcut]
      exact hP _ ⟨cs', a', l', n', rfl⟩
    · have hg : (st cs' a' l' n' (rest ++ tmp) fz).objs[rest.length + 1 + i]? = some (.lst xs) := by
        show (fd cs' a' l' n' :: (rest ++ tmp))[rest.length + 1 + i]? = _
        rw [show rest.length + 1 + i = (rest.length + i) + 1 by omega, List.getElem?_cons_succ, List.getElem?_append_right (by omega)]
        rw [show rest.length + i - rest.length = i by omega, hi]
      have hfin : fin (rest.length + 1) (st cs' a' l' n' (rest ++ tmp) fz) (.ref (rest.length + 1 + i)) = .lst xs := by
        simp [fin, hg]
      have hcl : cl (rest.length + 1) (.lst xs) = true := plain_cls _ 60 xs hx
      simp only [hfin, hc, hcl, and_self, if_true, wpR_ok, hcut]
      exact hP _ ⟨cs', a', l', n', rfl⟩
  | exc c fs M' => rw [q] at h; exact h.elim
  | stuck => rw [q] at h; exact h.elim
@[simp] theorem w_mulS (x : Str) (n : Int) : wpR (gMul (.str x) (.int n) M) P E = ((0 ≤ n ∧ n ≤ 100 ∧ x.length ≤ 1000) ∧ P (.str (strMul x n)) M) := by
  show wpR (if 0 ≤ n ∧ n ≤ 100 ∧ x.length ≤ 1000 then Res.ok (AV.str (strMul x n)) M else .stuck) P E = _
  by_cases h : 0 ≤ n ∧ n ≤ 100 ∧ x.length ≤ 1000
  · rw [if_pos h]
    simp [h]
  · rw [if_neg h]
    simp only [wpR_stuck, h, false_and]
theorem tx_mul {Q : Nat → Prop} {k : Nat} {x : Str} (h : Tx Q k x) (n : Int) : Tx Q (k * n.toNat) (strMul x n) := by
  have hl : ∀ m : Nat, ((List.replicate m x.cps.toList).flatten).length = m * x.length := fun m => by
    induction m with
    | zero => simp
    | succ m ih => simp [List.replicate_succ, ih, Nat.succ_mul, Str.length]; omega
  refine ⟨?_, fun c hc => ?_⟩
  · show ((List.replicate n.toNat x.cps.toList).flatten).toArray.size ≤ _
    rw [List.size_toArray, hl, Nat.mul_comm]
    exact Nat.mul_le_mul_right _ h.len
  · have hc : c ∈ (List.replicate n.toNat x.cps.toList).flatten := by simpa [strMul] using hc
    obtain ⟨l, h1, h2⟩ := List.mem_flatten.mp hc
    rw [(List.mem_replicate.mp h1).2] at h2
    exact h.all c h2
@[simp] theorem v_stepL1 (xs : List AV) : gStep (.lst xs) (.int 1) M = .ok (.lst xs) M := byrfl rfl
@[simp] theorem v_stepL2 (xs : List AV) : gStep (.lst xs) (.int (-1)) M = .ok (.lst xs.reverse) M := byrfl rfl
theorem plain_strs (ws : List Str) : ∀ x ∈ ws.map AV.str, plain 60 x = true := fun x hx => by
  obtain ⟨y, _, rfl⟩ := List.mem_map.mp hx
  rfl
def Wds (n : Nat) (ws : List Str) : Prop := ws.length = n ∧ ∀ x ∈ ws, Tx AnyC 20 x
end
end Px

namespace Px
open PySem hiding Env plain
open L2 Mx StrLaws PySem.W
local macro_rules | `(tactic| simp! [$ls,*]) => `(tactic| try simp -implicitDefEqProofs only [List.map_cons, List.map_nil, List.cons_append, List.nil_append, List.replicate, List.set_cons_succ, List.set_cons_zero, wipeG, wpS_then, wpS_set, wpS_if, wpS_mret, wpS_retN, wpS_mnext, wpS_mbrk, wpS_mcnt, wpS_exp, wpS_asg, wpS_for, w_c, w_bin, w_un, w_ifE, w_andV, w_orV, w_notV, w_call, w_chain, w_meth, w_meth0, w_sl, w_noPart, w_part, w_nil, w_cons, w_bl, w_tru, w_and, w_or, w_not, w_lcV, w_lcR, w_lc, w_seq, w_rng1, w_rng2, w_var0, w_var1, w_var2, w_var3, w_var4, w_var5, w_var6, w_var7, w_var8, w_var9, w_var10, w_var11, w_var12, w_var13, w_var14, w_var15, w_var16, w_var17, w_var18, w_var19, w_var20, w_dictT, w_dictK, w_callK, wpR_ok, wpR_sized, v_nm, v_addI, v_addS, v_addT, v_addL, v_sub, v_neg, w_mul, w_div, w_mod, w_pow, v_ordI, v_eqI, v_neI, v_eqS, v_neS, v_lenS, v_lenL, v_lenF, v_lenT, v_truB, v_seqS, v_seqT, v_seqL, v_seqF, v_listT, v_listL, v_tupleL, v_tupleT, v_tupD, v_lstD, v_lstR, v_slT, v_slL, v_slF, w_slS, defD_rt, defD_nx, defD_ex, defD_bk, defD_ct, AV.bl.injEq, AV.int.injEq, Option.some.injEq, exists_eq_left', tyS, if_true, if_false, Bool.false_eq_true, true_and, and_true, $ls,*])
structure Rc where
  nm : Nm
  hand : Str
  base : List Nm
  deed : AV
  floor : List Nm
def recA (r : Rc) : AV := .tup [nameA r.nm, .str r.hand, .tup (r.base.map nameA), r.deed]
def flA (r : Rc) : AV := .lst (r.floor.map nameA)
abbrev namesW (w : List Rc) : List Nm := w.map (·.nm)
abbrev chK (w : List Rc) : List (List Key × AV) := byN Rc.nm recA w
abbrev knK (w : List Rc) : List (List Key × AV) := byN Rc.nm flA w
def laK (l : List (Str × Nm)) : List (Key × AV) := l.map fun p => (.inr p.1, nameA p.2)
abbrev wdL : List (Key × AV) := [(.inr "changes", .ref 1), (.inr "knows", .ref 2), (.inr "last", .ref 3), (.inr "hangs", .ref 4)]
def wdA : AV := .dK wdL
def wrest (w : List Rc) (l : List (Str × Nm)) (h : List Nm) : List AV := [.dT (chK w), .dT (knK w), .dK (laK l), .lst (h.map nameA), wdA]
theorem wd_ch : getK wdL (.inr ("changes" : Str)) = some (.ref 1) := by kernel_rfl
theorem wd_kn : getK wdL (.inr ("knows" : Str)) = some (.ref 2) := by kernel_rfl
theorem wd_la : getK wdL (.inr ("last" : Str)) = some (.ref 3) := by kernel_rfl
theorem wd_ha : getK wdL (.inr ("hangs" : Str)) = some (.ref 4) := by kernel_rfl
structure NmOk (n : Nm) : Prop where
  lo : 1 ≤ n.1
  hi : n.1 ≤ 100
  tx : Tx AnyC 20 n.2
theorem NmOk.sh {n : Nm} (h : NmOk n) : Sh 1 411 (nameA n) := by
  have h1 := h.lo
  have h2 := h.hi
  refine (sh_tup (d := 0) (n := 202) fun a ha => ?_).mono (by decide) (by simp)
  simp only [List.mem_cons, List.not_mem_nil, or_false] at ha
  rcases ha with rfl | rfl
  · exact (sh_int 3 (by omega) (by decide) (by decide)).mono (by decide) (by decide)
  · exact h.tx.sh.mono (by decide) (by decide)
structure DeedOk (d : AV) : Prop where
  sh : Sh 2 2068 d
  hd : ∃ s r, d = .tup (.str s :: r)
theorem deed_ok {s : Str} {r : List AV} (hs : Tx AnyC 20 s) (hr : ∀ a ∈ r, Sh 1 411 a) (hl : r.length ≤ 4) : DeedOk (.tup (.str s :: r)) := by
  refine ⟨(sh_tup (d := 1) (n := 411) fun a ha => ?_).mono (by decide) (by simp; omega), _, _, rfl⟩
  rcases List.mem_cons.mp ha with rfl | ha
  · exact hs.sh.mono (by decide) (by decide)
  · exact hr a ha
section
variable {w : List Rc} {l : List (Str × Nm)} {h : List Nm} {tmp : List AV} {M : AH} {P : AV → AH → Prop} {E : Str → List (Str × AV) → AH → Prop} {G : Env}
theorem w_ch (hM : Fs (wrest w l h ++ tmp) [] M) : gIx (.ref 5) (.str "changes") M = .ok (.ref 1) M := f_ixK (i := 4) hM rfl rfl wd_ch
theorem w_kn (hM : Fs (wrest w l h ++ tmp) [] M) : gIx (.ref 5) (.str "knows") M = .ok (.ref 2) M := f_ixK (i := 4) hM rfl rfl wd_kn
theorem w_la (hM : Fs (wrest w l h ++ tmp) [] M) : gIx (.ref 5) (.str "last") M = .ok (.ref 3) M := f_ixK (i := 4) hM rfl rfl wd_la
theorem w_ha (hM : Fs (wrest w l h ++ tmp) [] M) : gIx (.ref 5) (.str "hangs") M = .ok (.ref 4) M := f_ixK (i := 4) hM rfl rfl wd_ha
theorem w_chAt {r : Rc} (hM : Fs (wrest w l h ++ tmp) [] M) {n : Nm} (hr : (w.find? fun r => decide (r.nm = n)) = some r) : gIx (.ref 1) (nameA n) M = .ok (recA r) M := f_ixT (i := 0) hM rfl (keyT_name n) (by rw [getK_byN, hr]; rfl)
theorem w_knAt {r : Rc} (hM : Fs (wrest w l h ++ tmp) [] M) {n : Nm} (hr : (w.find? fun r => decide (r.nm = n)) = some r) : gIx (.ref 2) (nameA n) M = .ok (flA r) M := f_ixT (i := 1) hM rfl (keyT_name n) (by rw [getK_byN, hr]; rfl)
theorem w_sortCh (hM : Fs (wrest w l h ++ tmp) [] M) : gSorted [.ref 1] M = .ok (.lst ((sortN (namesW w)).map nameA)) M := f_sortN (i := 0) (f := Rc.nm) (g := recA) (w := w) hM rfl
theorem f_len {rest : List AV} {fz : List Nat} {i : Nat} {xs : List AV} (hM : Fs rest fz M) (hx : rest[i]? = some (.lst xs)) : gLen [.ref (i + 1)] M = .ok (.int xs.length) M := by
  have e : M.objs[i + 1]? = some (.lst xs) := by rw [hM.get, hx]
  show gLenO M (.ref (i + 1)) = _
  simp [gLenO, dctK, dctT, itemsOf, lstR, e]
theorem v_inStr (neg : Bool) (x : Str) (L : List Str) : gIn neg (.str x) (.lst (L.map .str)) M = .ok (.bl (if neg then !decide (x ∈ L) else decide (x ∈ L))) M := by
  have h1 : (L.map AV.str).all (plain 60) = true := by
    simp only [List.all_map, List.all_eq_true]
    exact fun n _ => rfl
  have h2 : ((L.map AV.str).any fun z => aeq z (.str x)) = decide (x ∈ L) := by
    rw [Bool.eq_iff_iff]
    simp only [List.any_map, List.any_eq_true, Function.comp, decide_eq_true_eq]
    have e : ∀ y : Str, aeq (.str y) (.str x) = decide (y = x) := fun y => by
      show PyData.eqv (.str y) (.str x) = _
      simp only [PyData.eqv]
      rfl
    constructor
    · rintro ⟨y, hy, q⟩
      rw [e] at q
      exact of_decide_eq_true q ▸ hy
    · exact fun q => ⟨x, q, by rw [e]; simp⟩
  have h3 : inA M (.str x) (.lst (L.map .str)) = some (decide (x ∈ L)) := by
    show (if plain 60 (.str x) && (L.map AV.str).all (plain 60) then some ((L.map AV.str).any fun z => aeq z (.str x)) else none) = _
    rw [h1, h2]
    rfl
  unfold gIn
  rw [h3]
theorem plain_namesL (L : List Nm) : plain 60 (.lst (L.map nameA)) = true := by
  simp only [plain, List.all_map, List.all_eq_true]
  exact fun n _ => rfl
def sortOf (w : List Rc) (n : Nm) : Str := match w.find? (fun r => decide (r.nm = n)) with
  | some r => (match r.deed with
    | .tup (.str s :: _) => s
    | _ => "")
  | none => ""
theorem d_deed {base floor : List Nm} (hM : Fs (wrest w l h ++ tmp) [] M) (hf : ∀ x ∈ floor, x ∈ namesW w) (hw : ∀ r ∈ w, DeedOk r.deed) (hn : ∀ x ∈ floor, NmOk x) (hl : floor.length ≤ 100)
    (q : ∀ d M', DeedOk d → Fs (wrest w l h ++ tmp) [] M' → P d M') : wpR (m_deed [.ref 0, .ref 5, .tup (base.map nameA), .lst (floor.map nameA)] M) P E := by
  refine wp_gcF hM ?_
  have fin : ∀ d M', DeedOk d → Fs (wrest w l h ++ tmp) [] M' → plain 60 d = true ∧ (∃ t, Fs (wrest w l h ++ tmp ++ t) [] M') ∧ ∀ M'', Fs (wrest w l h ++ tmp) [] M'' → P d M'' := fun d M' hd hF => ⟨plain_mono 2 60 d (by decide) hd.sh.pl, hF.ofT, fun M'' hF' => q d M'' hd hF'⟩
  have h0 : 0 ∉ ([] : List Nat) := by simp
  refine wp_def rfl ?_
  unfold deed_b
  have a27 : Tx AnyC 27 ("abcdefghijklmnopqrstuvwxyz " : Str) := ⟨by decide +kernel, by decide +kernel⟩
  have l27 : ("abcdefghijklmnopqrstuvwxyz " : Str).length = 27 := by decide +kernel
  generalize ("abcdefghijklmnopqrstuvwxyz " : Str) = abc at *
  simp! []
  refine d_draw h0 hM (by decide) (by decide) fun m M1 m0 m1 h1 => ?_
  simp! []
  rw [w_gRng1 (by unfold rngOk; simp; omega)]
  refine wp_lcl (fun acc M => Sgs AnyC 1 acc ∧ Fs (wrest w l h ++ tmp) [] M) _ _ _ (by rw [rng_len]; simp; omega) ⟨Sgs.nil, h1⟩ ?_ ?_
  · rintro k _ acc M ⟨hs, hF⟩
    simp! []
    refine d_draw h0 hF (by omega) (by omega) fun n M2 n0 n1 h2 => ?_
    exact w_sign a27 (by decide) n0 (by omega) fun c hc => ⟨hs.snoc ⟨_, rfl, tx_chr hc⟩, h2⟩
  rintro acc M3 hla ⟨hs, h3⟩
  rw [rng_len] at hla
  refine w_join (n := 5) hs (by simp at hla; omega) (by decide) fun x hx => ?_
  have hx5 : Sh 1 411 (.str x) := hx.sh.mono (by decide) (by decide)
  simp! []
  refine d_draw h0 h3 (by decide) (by decide) fun way M4 w0 w1 h4 => ?_
  simp! []
  have es : lcl ⟨floor.map nameA, none⟩ (gNm 9) (fun _ M => .ok true M) (mBin gIx (mBin gIx (mBin gIx (mBin gIx (mVar 1) (mC (.str "changes"))) (mVar 9)) (mC (.int 3))) (mC (.int 0))) [some (.ref 0), some (.ref 5), some (.tup (base.map nameA)), some (.lst (floor.map nameA)), some (.str abc), some (.str x), some (.int way), none, none, none, none] (floor.map nameA) [] M4 = .ok ((floor.map (sortOf w)).map .str) M4 := by
    have := lcl_map (l0 := floor.map nameA) (t := gNm 9) (c := fun _ M => .ok true M) (el := mBin gIx (mBin gIx (mBin gIx (mBin gIx (mVar 1) (mC (.str "changes"))) (mVar 9)) (mC (.int 3))) (mC (.int 0))) (G := [some (.ref 0), some (.ref 5), some (.tup (base.map nameA)), some (.lst (floor.map nameA)), some (.str abc), some (.str x), some (.int way), none, none, none, none]) (M := M4) nameA (fun _ => true) (fun n => .str (sortOf w n)) floor [] (by simp; omega) fun n hn => ⟨_, rfl, rfl, fun _ => wpR_eq (by
      obtain ⟨r, e1, hr, e2⟩ := find_in (f := Rc.nm) (hf n hn)
      obtain ⟨s, rr, hd⟩ := (hw r hr).hd
      have e3 : atI [nameA r.nm, AV.str r.hand, .tup (r.base.map nameA), .tup (.str s :: rr)] 3 = some (.tup (.str s :: rr)) := rfl
      have e4 : atI (AV.str s :: rr) 0 = some (.str s) := by
        have : atI (AV.str s :: rr) 0 = ((AV.str s :: rr)[0]?) := by
          unfold atI ixN
          simp
        rw [this]
        rfl
      simp! [w_ch h4, w_chAt h4 e1, recA, w_ixT, e3, hd, e4]
      simp [sortOf, e1, hd, w_ixT, e4])⟩
    rw [List.nil_append, List.filter_eq_self.mpr fun _ _ => rfl] at this
    rw [List.map_map]
    exact this
  rw [es]
  simp! []
  rw [w_gRng1 (by unfold rngOk; simp; omega)]
  have hn' : ((floor.map nameA).length : Int).toNat = floor.length := by simp
  rw [hn']
  have eh : lcl ⟨rngItems 0 floor.length, none⟩ (gNm 10) (mBl (mBin gEq (mBin gIx (mVar 7) (mVar 10)) (mC (.str "hang")))) (mBin gIx (mVar 3) (mVar 10)) [some (.ref 0), some (.ref 5), some (.tup (base.map nameA)), some (.lst (floor.map nameA)), some (.str abc), some (.str x), some (.int way), some (.lst ((floor.map (sortOf w)).map .str)), none, none, none] (rngItems 0 floor.length) [] M4 =
      .ok ((((List.range floor.length).filter fun k => decide (sortOf w (floor.getD k (0, "")) = "hang")).map fun k => floor.getD k (0, "")).map nameA) M4 := by
    have := lcl_map (l0 := rngItems 0 floor.length) (t := gNm 10) (c := mBl (mBin gEq (mBin gIx (mVar 7) (mVar 10)) (mC (.str "hang")))) (el := mBin gIx (mVar 3) (mVar 10)) (G := [some (.ref 0), some (.ref 5), some (.tup (base.map nameA)), some (.lst (floor.map nameA)), some (.str abc), some (.str x), some (.int way), some (.lst ((floor.map (sortOf w)).map .str)), none, none, none]) (M := M4) (fun k : Nat => AV.int (0 + (k : Int))) (fun k => decide (sortOf w (floor.getD k (0, "")) = "hang")) (fun k => nameA (floor.getD k (0, ""))) (List.range floor.length) [] (by simp; omega) fun k hk => by
      have hk := List.mem_range.mp hk
      have e1 : atI ((floor.map (sortOf w)).map AV.str) (0 + (k : Int)) = some (.str (sortOf w (floor.getD k (0, "")))) := by
        rw [at_nn (by omega) (by simp; omega)]
        simp [hk]
      have e2 : atI (floor.map nameA) (0 + (k : Int)) = some (nameA (floor.getD k (0, ""))) := by
        rw [at_nn (by omega) (by simp; omega)]
        simp [hk]
      refine ⟨_, rfl, wpR_eq ?_, fun _ => wpR_eq ?_⟩
      · simp! [w_ixL, e1]
        try simp
      · simp! [w_ixL, e2]
        try simp
    rw [List.nil_append, show (fun k => nameA (floor.getD k (0, ""))) = nameA ∘ fun k => floor.getD k (0, "") from rfl, ← List.map_map] at this
    exact this
  rw [eh]
  have hh : ∀ y ∈ (((List.range floor.length).filter fun k => decide (sortOf w (floor.getD k (0, "")) = "hang")).map fun k => floor.getD k (0, "")), y ∈ floor := fun y hy => by
    obtain ⟨k, hk, rfl⟩ := List.mem_map.mp hy
    have hk := List.mem_range.mp (List.mem_filter.mp hk).1
    simp [hk]
  have hhl : (((List.range floor.length).filter fun k => decide (sortOf w (floor.getD k (0, "")) = "hang")).map fun k => floor.getD k (0, "")).length ≤ 100 := by
    have := List.length_filter_le (fun k => decide (sortOf w (floor.getD k (0, "")) = "hang")) (List.range floor.length)
    simp only [List.length_map, List.length_range] at this ⊢
    omega
  generalize (((List.range floor.length).filter fun k => decide (sortOf w (floor.getD k (0, "")) = "hang")).map fun k => floor.getD k (0, "")) = hangs at hh hhl ⊢
  have hput : ∀ (neg : Bool), gIn neg (.str "put") (.lst ((floor.map (sortOf w)).map .str)) M4 = .ok (.bl (if neg then !decide (("put" : Str) ∈ floor.map (sortOf w)) else decide (("put" : Str) ∈ floor.map (sortOf w)))) M4 := fun neg => v_inStr neg _ _
  have hlen : gLen [.ref 4] M4 = .ok (.int (h.map nameA).length) M4 := f_len (i := 3) h4 rfl
  generalize (floor.map (sortOf w)).map AV.str = sorts at hput ⊢
  have last : ∀ M', Fs (wrest w l h ++ tmp) [] M' → DeedOk (.tup [.str "put", .int 0, .str x]) := fun M' _ => deed_ok ⟨by decide +kernel, by decide +kernel⟩ (by
    intro a ha
    simp only [List.mem_cons, List.not_mem_nil, or_false] at ha
    rcases ha with rfl | rfl
    · exact (sh_int 1 (by decide) (by decide) (by decide)).mono (by decide) (by decide)
    · exact hx5) (by simp)
  simp! [v_neL0 (plain_namesL hangs), hput, w_ha h4, hlen]
  have i01 : ∀ i : Int, i.natAbs < 10 ^ 1 → Sh 1 411 (.int i) := fun i hi => (sh_int 1 hi (by decide) (by decide)).mono (by decide) (by decide)
  have putP : [AV.str "put", AV.int 0, AV.str x].length ≤ 16777216 ∧ plain 60 (AV.tup [AV.str "put", AV.int 0, AV.str x]) = true ∧ (∃ t, Fs (wrest w l h ++ tmp ++ t) [] M4) ∧ ∀ M'', Fs (wrest w l h ++ tmp) [] M'' → P (AV.tup [AV.str "put", AV.int 0, AV.str x]) M'' := ⟨by simp, fin _ _ (last _ h4) h4⟩
  have joinP := fin (.tup [.str "join"]) M4 (deed_ok ⟨by decide +kernel, by decide +kernel⟩ (by simp) (by decide)) h4
  have ansP : ([] : List AV).length ≤ 16777216 ∧ if (!(List.map nameA hangs).isEmpty) = true then wpR (m_draw [AV.ref 0, AV.int (List.map nameA hangs).length] M4) (fun b M2 => wpR (gIx (AV.lst (List.map nameA hangs)) b M2) (fun a M1 => [AV.str "answer", a, AV.str x].length ≤ 16777216 ∧ plain 60 (AV.tup [AV.str "answer", a, AV.str x]) = true ∧ (∃ t, Fs (wrest w l h ++ tmp ++ t) [] M1) ∧ ∀ M'', Fs (wrest w l h ++ tmp) [] M'' → P (AV.tup [AV.str "answer", a, AV.str x]) M'') fun _ _ _ => False) (fun _ _ _ => False)
      else [AV.str "put", AV.int 0, AV.str x].length ≤ 16777216 ∧ plain 60 (AV.tup [AV.str "put", AV.int 0, AV.str x]) = true ∧ (∃ t, Fs (wrest w l h ++ tmp ++ t) [] M4) ∧ ∀ M'', Fs (wrest w l h ++ tmp) [] M'' → P (AV.tup [AV.str "put", AV.int 0, AV.str x]) M'' := by
    refine ⟨by simp, ?_⟩
    split
    · rename_i hne
      have hpos : 0 < hangs.length := by
        cases hangs with
        | nil => simp at hne
        | cons a r => simp
      refine d_draw h0 h4 (by simp; omega) (by simp; omega) fun n M5 n0 n1 h5 => ?_
      refine w_one n0 (by simpa using n1) fun a ha => ?_
      obtain ⟨y, hy, rfl⟩ := List.mem_map.mp ha
      refine ⟨by simp, fin _ _ (deed_ok ⟨by decide +kernel, by decide +kernel⟩ (by
        intro a ha
        simp only [List.mem_cons, List.not_mem_nil, or_false] at ha
        rcases ha with rfl | rfl
        · exact (hn y (hh y hy)).sh
        · exact hx5) (by simp)) h5⟩
    · exact putP
  have hangP : [AV.str "shut", AV.str "wide"].length ≤ 16777216 ∧ wpR (m_draw [AV.ref 0, AV.int 2] M4) (fun b M2 => wpR (gIx (AV.lst [AV.str "shut", AV.str "wide"]) b M2) (fun a M1 => [AV.str "hang", AV.int 0, AV.int 1, a, AV.str x].length ≤ 16777216 ∧ plain 60 (AV.tup [AV.str "hang", AV.int 0, AV.int 1, a, AV.str x]) = true ∧ (∃ t, Fs (wrest w l h ++ tmp ++ t) [] M1) ∧ ∀ M'', Fs (wrest w l h ++ tmp) [] M'' → P (AV.tup [AV.str "hang", AV.int 0, AV.int 1, a, AV.str x]) M'') fun _ _ _ => False) (fun _ _ _ => False) := by
    refine ⟨by simp, ?_⟩
    refine d_draw h0 h4 (by decide) (by decide) fun n M5 n0 n1 h5 => ?_
    refine w_one n0 (by simpa using n1) fun a ha => ?_
    have ha : Sh 1 411 a := by
      simp only [List.mem_cons, List.not_mem_nil, or_false] at ha
      rcases ha with rfl | rfl
      · exact (Tx.sh (n := 4) ⟨by decide +kernel, by decide +kernel⟩).mono (by decide) (by decide)
      · exact (Tx.sh (n := 4) ⟨by decide +kernel, by decide +kernel⟩).mono (by decide) (by decide)
    refine ⟨by simp, fin _ _ (deed_ok ⟨by decide +kernel, by decide +kernel⟩ (by
      intro b hb
      simp only [List.mem_cons, List.not_mem_nil, or_false] at hb
      rcases hb with rfl | rfl | rfl | rfl
      · exact i01 0 (by decide)
      · exact i01 1 (by decide)
      · exact ha
      · exact hx5) (by simp)) h5⟩
  by_cases c0 : decide (way = 0) = true <;> by_cases c1 : decide (1 < ((List.map nameA base).length : Int)) = true <;> by_cases c2 : decide (way = 1) = true <;> by_cases c3 : decide (("put" : Str) ∈ List.map (sortOf w) floor) = true <;>
    by_cases c4 : decide (((List.map nameA h).length : Int) < 6) = true <;> by_cases c5 : decide (way = 2) = true <;> simp only [c0, c1, c2, c3, c4, c5, if_true, if_false, Bool.false_eq_true] <;>
    first | exact putP | exact ⟨by simp, joinP⟩ | exact ansP | exact hangP
end
end Px

namespace Px
open PySem hiding Env plain
open L2 Mx StrLaws PySem.W
theorem wp_seq {m n : SM} {G : Env} {M : AH} {D : SD} (I : Env → AH → Prop) (h1 : wpS (m G M) ⟨I, D.rt, D.ex, D.bk, D.ct⟩) (h2 : ∀ G M, I G M → wpS (n G M) D) : wpS (mThen m n G M) D := by
  rw [wpS_then]
  exact h1.imp (fun G M h => h2 G M h) (fun _ _ h => h) (fun _ _ _ h => h) (fun _ _ h => h) fun _ _ h => h
def knowsW (w : List Rc) (n : Nm) : List Nm := match w.find? (fun r => decide (r.nm = n)) with
  | some r => r.floor
  | none => []
theorem knows_in {w : List Rc} {n : Nm} (h : n ∈ namesW w) : ∃ r, (w.find? fun r => decide (r.nm = n)) = some r ∧ r ∈ w ∧ r.nm = n ∧ knowsW w n = r.floor := by
  obtain ⟨r, e1, hr, e2⟩ := find_in (f := Rc.nm) h
  exact ⟨r, e1, hr, e2, by simp [knowsW, e1]⟩
def lookL (l : List (Str × Nm)) (b : Str) : Option Nm := (l.find? fun p => decide (p.1 = b)).map (·.2)
theorem getK_la (l : List (Str × Nm)) (b : Str) : getK (laK l) (.inr b) = (lookL l b).map nameA := by
  unfold getK laK lookL
  rw [List.find?_map]
  have e : ((fun kv : Key × AV => decide (kv.1 = Sum.inr b)) ∘ fun p : Str × Nm => ((Sum.inr p.1 : Key), nameA p.2)) = fun p => decide (p.1 = b) := by
    funext p
    apply decide_eq_decide.mpr
    exact ⟨fun h => Sum.inr.inj h, fun h => by show (Sum.inr p.1 : Key) = _; rw [h]⟩
  rw [e]
  cases l.find? fun p => decide (p.1 = b) <;> rfl
def setL' (l : List (Str × Nm)) (b : Str) (n : Nm) : List (Str × Nm) := if (l.any fun p => decide (p.1 = b)) = true then l.map (fun p => if p.1 = b then (p.1, n) else p) else l ++ [(b, n)]
theorem setK_la (l : List (Str × Nm)) (b : Str) (n : Nm) : setK (laK l) (.inr b) (nameA n) = laK (setL' l b n) := by
  have e : ((laK l).any fun kv => decide (kv.1 = Sum.inr b)) = l.any fun p => decide (p.1 = b) := by
    unfold laK
    rw [List.any_map]
    congr 1
    funext p
    apply decide_eq_decide.mpr
    exact ⟨fun h => Sum.inr.inj h, fun h => by show (Sum.inr p.1 : Key) = _; rw [h]⟩
  unfold setK setL'
  rw [e]
  split
  · unfold laK
    rw [List.map_map, List.map_map]
    refine List.map_congr_left fun p _ => ?_
    show (if (Sum.inr p.1 : Key) = Sum.inr b then ((Sum.inr p.1 : Key), nameA n) else (Sum.inr p.1, nameA p.2)) = (Sum.inr (if p.1 = b then (p.1, n) else p).1, nameA (if p.1 = b then (p.1, n) else p).2)
    by_cases q : p.1 = b
    · simp [q]
    · have q2 : ¬ (Sum.inr p.1 : Key) = Sum.inr b := fun z => q (Sum.inr.inj z)
      simp [q, q2]
  · simp [laK]
theorem lookL_set (l : List (Str × Nm)) (b c : Str) (n : Nm) : lookL (setL' l b n) c = if c = b then some n else lookL l c := by
  unfold setL'
  split
  · rename_i ha
    unfold lookL
    rw [List.find?_map]
    have e : ((fun p : Str × Nm => decide (p.1 = c)) ∘ fun p : Str × Nm => if p.1 = b then (p.1, n) else p) = fun p => decide (p.1 = c) := by
      funext p
      simp only [Function.comp]
      by_cases q : p.1 = b <;> simp [q]
    rw [e]
    by_cases hc : c = b
    · subst hc
      rw [if_pos rfl]
      obtain ⟨p, hp, q⟩ := List.any_eq_true.mp ha
      cases f : l.find? fun p => decide (p.1 = c) with
      | none =>
        have := List.find?_eq_none.mp f p hp
        exact absurd q this
      | some p' =>
        have : p'.1 = c := by simpa using List.find?_some f
        simp [this]
    · rw [if_neg hc]
      cases f : l.find? fun p => decide (p.1 = c) with
      | none => rfl
      | some p' =>
        have h1 : p'.1 = c := by simpa using List.find?_some f
        have h2 : ¬ p'.1 = b := fun z => hc (h1 ▸ z)
        simp [h2]
  · rename_i ha
    unfold lookL
    rw [List.find?_append]
    by_cases hc : c = b
    · subst hc
      rw [if_pos rfl]
      have f : l.find? (fun p => decide (p.1 = c)) = none := List.find?_eq_none.mpr fun p hp q => ha (List.any_eq_true.mpr ⟨p, hp, q⟩)
      simp [f]
    · rw [if_neg hc]
      have h2 : ¬ b = c := fun z => hc z.symm
      cases l.find? (fun p => decide (p.1 = c)) <;> simp [h2]
structure RecOk (w : List Rc) (r : Rc) : Prop where
  fl : ∀ x ∈ r.floor, x ∈ namesW w
  nd : r.floor.Nodup
  so : ∃ L, r.floor = sortN L
  clo : ∀ x ∈ r.floor, ∀ y ∈ knowsW w x, y ∈ r.floor
  ba : r.base = r.floor.filter fun x => decide (∀ y ∈ r.floor, x ∉ knowsW w y)
  cnt : r.nm.1 = 1 + maxD0 0 (r.floor.map (·.1))
  br : ∀ s ∈ w, s.nm.2 = r.nm.2 → s.nm ∈ r.floor
  ok : NmOk r.nm
  hand : Tx AnyC 20 r.hand
  deed : DeedOk r.deed
inductive WOk : List Rc → Prop
  | nil : WOk []
  | snoc {w : List Rc} {r : Rc} : WOk w → RecOk w r → WOk (w ++ [r])
theorem maxD0_ge : ∀ (L : List Int) (x : Int), x ∈ L → x ≤ maxD0 0 L
  | n :: r, x, h => by
    obtain ⟨h1, h2, _⟩ := foldmax_ge r n
    rcases List.mem_cons.mp h with rfl | h
    · exact h1
    · exact h2 x h
theorem maxD0_in : ∀ L : List Int, maxD0 0 L = 0 ∨ maxD0 0 L ∈ L
  | [] => .inl rfl
  | n :: r => by
    obtain ⟨_, _, h3⟩ := foldmax_ge r n
    right
    rcases h3 with h3 | h3
    · show r.foldl max n ∈ _
      rw [h3]
      simp
    · exact List.mem_cons_of_mem _ h3
theorem RecOk.lt {w : List Rc} {r : Rc} (h : RecOk w r) {x : Nm} (hx : x ∈ r.floor) : x.1 < r.nm.1 := by
  have := maxD0_ge (r.floor.map (·.1)) x.1 (List.mem_map.mpr ⟨x, hx, rfl⟩)
  rw [h.cnt]
  omega
theorem RecOk.new {w : List Rc} {r : Rc} (h : RecOk w r) : r.nm ∉ namesW w := fun z => by
  obtain ⟨s, hs, e⟩ := List.mem_map.mp z
  have := h.lt (h.br s hs (by rw [e]))
  rw [e] at this
  omega
theorem WOk.nd {w : List Rc} (h : WOk w) : (namesW w).Nodup := by
  induction h with
  | nil => simp [namesW]
  | @snoc w r _ hr ih =>
    show ((w ++ [r]).map (·.nm)).Nodup
    rw [List.map_append, List.nodup_append]
    refine ⟨ih, by simp, fun a ha b hb e => ?_⟩
    simp only [List.map_cons, List.map_nil, List.mem_singleton] at hb
    exact hr.new (by rw [← hb, ← e]; exact ha)
theorem WOk.deeds {w : List Rc} (h : WOk w) : ∀ r ∈ w, DeedOk r.deed ∧ NmOk r.nm ∧ Tx AnyC 20 r.hand := by
  induction h with
  | nil => simp
  | @snoc w r _ hr ih =>
    intro s hs
    rcases List.mem_append.mp hs with z | z
    · exact ih s z
    · rw [List.mem_singleton.mp z]
      exact ⟨hr.deed, hr.ok, hr.hand⟩
theorem WOk.names {w : List Rc} (h : WOk w) : ∀ n ∈ namesW w, NmOk n := fun n hn => by
  obtain ⟨r, hr, rfl⟩ := List.mem_map.mp hn
  exact (h.deeds r hr).2.1
def LaOk (w : List Rc) (l : List (Str × Nm)) : Prop := ∀ b, match lookL l b with
  | none => ∀ s ∈ w, s.nm.2 ≠ b
  | some n => n ∈ namesW w ∧ ∀ s ∈ w, s.nm.2 = b → s.nm = n ∨ s.nm ∈ knowsW w n
theorem knows_app {w : List Rc} {r : Rc} {n : Nm} (h : n ∈ namesW w) : knowsW (w ++ [r]) n = knowsW w n := by
  obtain ⟨s, e, _, _, _⟩ := knows_in h
  unfold knowsW
  rw [List.find?_append, e]
  rfl
theorem knows_new {w : List Rc} {r : Rc} (h : r.nm ∉ namesW w) : knowsW (w ++ [r]) r.nm = r.floor := by
  unfold knowsW
  rw [List.find?_append, find_no (f := Rc.nm) h]
  simp
theorem LaOk.snoc {w : List Rc} {l : List (Str × Nm)} {r : Rc} (h : LaOk w l) (hr : RecOk w r) : LaOk (w ++ [r]) (setL' l r.nm.2 r.nm) := fun b => by
  rw [lookL_set]
  by_cases hb : b = r.nm.2
  · rw [if_pos hb]
    refine ⟨by simp [namesW], fun s hs e => ?_⟩
    rcases List.mem_append.mp hs with z | z
    · right
      rw [knows_new hr.new]
      exact hr.br s z (by rw [e, hb])
    · left
      rw [List.mem_singleton.mp z]
  · rw [if_neg hb]
    have := h b
    cases e : lookL l b with
    | none =>
      rw [e] at this
      intro s hs
      rcases List.mem_append.mp hs with z | z
      · exact this s z
      · rw [List.mem_singleton.mp z]
        exact fun q => hb q.symm
    | some n =>
      rw [e] at this
      obtain ⟨h1, h2⟩ := this
      refine ⟨by simp only [namesW, List.map_append, List.mem_append]; exact .inl h1, fun s hs q => ?_⟩
      rcases List.mem_append.mp hs with z | z
      · rw [knows_app h1]
        exact h2 s z q
      · rw [List.mem_singleton.mp z] at q
        exact absurd q.symm hb
theorem WOk.trans {w : List Rc} (h : WOk w) : ∀ n ∈ namesW w, (∀ x ∈ knowsW w n, x ∈ namesW w ∧ x.1 < n.1 ∧ ∀ y ∈ knowsW w x, y ∈ knowsW w n) ∧ (knowsW w n).Nodup := by
  induction h with
  | nil => simp [namesW]
  | @snoc w r hw hr ih =>
    intro n hn
    simp only [namesW, List.map_append, List.map_cons, List.map_nil, List.mem_append, List.mem_singleton] at hn
    rcases hn with hn | rfl
    · rw [knows_app hn]
      obtain ⟨i1, i2⟩ := ih n hn
      refine ⟨fun x hx => ?_, i2⟩
      obtain ⟨a, b, c⟩ := i1 x hx
      rw [knows_app a]
      exact ⟨by simp only [namesW, List.map_append, List.mem_append]; exact .inl a, b, c⟩
    · rw [knows_new hr.new]
      refine ⟨fun x hx => ?_, hr.nd⟩
      have hxn := hr.fl x hx
      rw [knows_app hxn]
      exact ⟨by simp only [namesW, List.map_append, List.mem_append]; exact .inl hxn, hr.lt hx, hr.clo x hx⟩
end Px

namespace Px
open PySem hiding Env plain
open L2 Mx StrLaws PySem.W
local macro_rules | `(tactic| simp! [$ls,*]) => `(tactic| try simp -implicitDefEqProofs only [List.map_cons, List.map_nil, List.cons_append, List.nil_append, List.replicate, List.set_cons_succ, List.set_cons_zero, wipeG, wpS_then, wpS_set, wpS_if, wpS_mret, wpS_retN, wpS_mnext, wpS_mbrk, wpS_mcnt, wpS_exp, wpS_asg, wpS_for, w_c, w_bin, w_un, w_ifE, w_andV, w_orV, w_notV, w_call, w_chain, w_meth, w_meth0, w_sl, w_noPart, w_part, w_nil, w_cons, w_bl, w_tru, w_and, w_or, w_not, w_lcV, w_lcR, w_lc, w_seq, w_rng1, w_rng2, w_var0, w_var1, w_var2, w_var3, w_var4, w_var5, w_var6, w_var7, w_var8, w_var9, w_var10, w_var11, w_var12, w_var13, w_var14, w_var15, w_var16, w_var17, w_var18, w_var19, w_var20, w_dictT, w_dictK, w_callK, wpR_ok, wpR_sized, v_nm, v_addI, v_addS, v_addT, v_addL, v_sub, v_neg, w_mul, w_div, w_mod, w_pow, v_ordI, v_eqI, v_neI, v_eqS, v_neS, v_lenS, v_lenL, v_lenF, v_lenT, v_truB, v_seqS, v_seqT, v_seqL, v_seqF, v_listT, v_listL, v_tupleL, v_tupleT, v_tupD, v_lstD, v_lstR, v_slT, v_slL, v_slF, w_slS, defD_rt, defD_nx, defD_ex, defD_bk, defD_ct, AV.bl.injEq, AV.int.injEq, Option.some.injEq, exists_eq_left', tyS, if_true, if_false, Bool.false_eq_true, true_and, and_true, $ls,*])
abbrev insAll (L xs : List Nm) : List Nm := xs.foldl insN L
theorem mem_insAll {x : Nm} : ∀ {xs L : List Nm}, x ∈ insAll L xs ↔ x ∈ L ∨ x ∈ xs
  | [], L => by simp
  | a :: r, L => by
    show x ∈ insAll (insN L a) r ↔ _
    rw [mem_insAll, mem_insN]
    simp only [List.mem_cons]
    constructor
    · rintro ((h | h) | h)
      · exact .inl h
      · exact .inr (.inl h)
      · exact .inr (.inr h)
    · rintro (h | h | h)
      · exact .inl (.inl h)
      · exact .inl (.inr h)
      · exact .inr h
theorem nd_insAll : ∀ {xs L : List Nm}, L.Nodup → (insAll L xs).Nodup
  | [], L, h => h
  | a :: r, L, h => nd_insAll (xs := r) (L := insN L a) (nd_insN h)
abbrev addAll (f : Nm → List Nm) (L g : List Nm) : List Nm := g.foldl (fun acc n => insAll acc (f n)) L
theorem mem_addAll {f : Nm → List Nm} {x : Nm} : ∀ {g L : List Nm}, x ∈ addAll f L g ↔ x ∈ L ∨ ∃ n ∈ g, x ∈ f n
  | [], L => by simp
  | a :: r, L => by
    show x ∈ addAll f (insAll L (f a)) r ↔ _
    rw [mem_addAll, mem_insAll]
    simp only [List.mem_cons, exists_eq_or_imp]
    constructor
    · rintro ((h | h) | h)
      · exact .inl h
      · exact .inr (.inl h)
      · exact .inr (.inr h)
    · rintro (h | h | h)
      · exact .inl (.inl h)
      · exact .inl (.inr h)
      · exact .inr h
theorem nd_addAll {f : Nm → List Nm} : ∀ {g L : List Nm}, L.Nodup → (addAll f L g).Nodup
  | [], L, h => h
  | a :: r, L, h => nd_addAll (g := r) (L := insAll L (f a)) (nd_insAll h)
theorem clt_of {n : Nat} : ∀ {kvs : List (List Key × AV)}, (∀ p ∈ kvs, cl n p.2 = true) → clt n kvs = true
  | [], _ => rfl
  | (k, x) :: r, h => by
    simp only [clt, Bool.and_eq_true]
    exact ⟨h (k, x) (by simp), clt_of fun p hp => h p (by simp [hp])⟩
theorem clk_of {n : Nat} : ∀ {kvs : List (Key × AV)}, (∀ p ∈ kvs, cl n p.2 = true) → clk n kvs = true
  | [], _ => rfl
  | (k, x) :: r, h => by
    simp only [clk, Bool.and_eq_true]
    exact ⟨h (k, x) (by simp), clk_of fun p hp => h p (by simp [hp])⟩
theorem plain_rec {r : Rc} (h : DeedOk r.deed) : plain 60 (recA r) = true := by
  have h1 : plain 59 r.deed = true := plain_mono 2 59 _ (by decide) h.sh.pl
  have h2 : (r.base.map nameA).all (plain 58) = true := by
    simp only [List.all_map, List.all_eq_true]
    exact fun n _ => rfl
  simp only [recA, plain, List.all_cons, List.all_nil, Bool.and_true, h1, Bool.and_eq_true]
  exact ⟨rfl, trivial, h2⟩
theorem cl_wrest {w : List Rc} {l : List (Str × Nm)} {h : List Nm} (hw : ∀ r ∈ w, DeedOk r.deed) : ∀ c ∈ wrest w l h, cl 6 c = true := by
  intro c hc
  simp only [wrest, List.mem_cons, List.not_mem_nil, or_false] at hc
  rcases hc with rfl | rfl | rfl | rfl | rfl
  · refine clt_of fun p hp => ?_
    obtain ⟨r, hr, rfl⟩ := List.mem_map.mp hp
    exact plain_cl 6 60 _ (plain_rec (hw r hr))
  · refine clt_of fun p hp => ?_
    obtain ⟨r, hr, rfl⟩ := List.mem_map.mp hp
    exact plain_cl 6 60 _ (plain_namesL r.floor)
  · refine clk_of fun p hp => ?_
    obtain ⟨r, hr, rfl⟩ := List.mem_map.mp hp
    exact plain_cl 6 60 _ (plain_name r.2)
  · exact plain_cl 6 60 _ (plain_namesL h)
  · rfl
theorem cnt_le {w : List Rc} (h : WOk w) : ∀ n ∈ namesW w, n.1 ≤ w.length := by
  induction h with
  | nil => simp [namesW]
  | @snoc w r _ hr ih =>
    intro n hn
    simp only [namesW, List.map_append, List.map_cons, List.map_nil, List.mem_append, List.mem_singleton] at hn
    simp only [List.length_append, List.length_cons, List.length_nil]
    rcases hn with hn | rfl
    · have := ih n hn
      omega
    · rw [hr.cnt]
      rcases maxD0_in (r.floor.map (·.1)) with h | h
      · omega
      · obtain ⟨x, hx, e⟩ := List.mem_map.mp h
        have := ih x (hr.fl x hx)
        omega
def stE (ws : List Str) (b nms gr wa o7 o8 fl be ba ow de : Option AV) : Env := [some (.ref 0), some (.ref 5), some (.lst (ws.map .str)), b, nms, gr, wa, o7, o8, fl, be, ba, ow, de]
theorem len_setL (l : List (Str × Nm)) (b : Str) (n : Nm) : (setL' l b n).length ≤ l.length + 1 := by
  unfold setL'
  split
  · rw [List.length_map]
    omega
  · simp
theorem intsOf_map : ∀ L : List Int, intsOf (L.map .int) = some L
  | [] => rfl
  | a :: r => by simp [intsOf, intsOf_map r]
theorem v_maxDf (L : List Int) (d : Int) {M : AH} : gMaxDf [.lst (L.map .int)] [.int d] M = .ok (.int (maxD0 d L)) M := by
  simp only [gMaxDf, lstR, Option.bind_some, intsOf_map]
theorem nd_sortN {L : List Nm} (h : L.Nodup) : (sortN L).Nodup := (List.mergeSort_perm L _).nodup_iff.mpr h
section
variable {w : List Rc} {l : List (Str × Nm)} {h : List Nm} {M : AH} {P : AV → AH → Prop} {E : Str → List (Str × AV) → AH → Prop}
theorem d_wanted {rest2 : List AV} {D : SD} {G : Env} {S : Src} {iv : Nat} {n : Nm} {s : List Nm} {xs : List Nm} {mo : EM} (hS : S.num = none) (hM : Fs rest2 [] M) (hx : rest2[iv]? = some (.dT (trueK s))) (hs : s.Nodup) (hsub : ∀ x ∈ s, x ∈ namesW w) (hxs : ∀ x ∈ xs, x ∈ namesW w) (hl : w.length ≤ 20) (k : Nat)
    (hk : k < G.length) (ho : ∀ v M, mo (G.set k v) M = .ok (.ref (iv + 1)) M) (q : ∀ M', Fs (rest2.set iv (.dT (trueK (insAll s xs)))) [] M' → ∀ v, D.nx (G.set k v) M') :
    wpS (loop S (gNm k) (mAsg (gPut mo (mVar k)) (mC (.bl true))) (xs.map nameA) G M) D := by
  obtain ⟨items, num⟩ := S
  cases hS
  refine wp_fold (S := ⟨items, none⟩) nameA insN (fun s' G' M' => Fs (rest2.set iv (.dT (trueK s'))) [] M' ∧ s'.Nodup ∧ (∀ x ∈ s', x ∈ namesW w) ∧ ∃ v, G' = G.set k v) (fun _ _ _ _ => trivial) xs s G M ⟨?_, hs, hsub, ?_⟩ ?_ ?_
  · have : rest2.set iv (.dT (trueK s)) = rest2 := by
      apply List.ext_getElem?
      intro j
      by_cases e : j = iv
      · subst e
        rw [hx, List.getElem?_set_self (List.getElem?_eq_some_iff.mp hx).1]
      · rw [List.getElem?_set_ne (Ne.symm e)]
    rwa [this]
  · exact ⟨G[k], by simp⟩
  · rintro s' x G' M' hxm ⟨hF, hnd, hsb, v, rfl⟩
    have hlen : iv < rest2.length := (List.getElem?_eq_some_iff.mp hx).1
    have eG : (G.set k v).set k (some (nameA x)) = G.set k (some (nameA x)) := by simp
    have ev : mVar k (G.set k (some (nameA x))) M' = .ok (nameA x) M' := by
      unfold mVar
      rw [List.getElem?_set_self hk]
    simp! []
    rw [eG]
    refine f_putT hF (by rw [List.getElem?_set_self hlen]) ?_ (ho _ _) ev (keyT_name x) fun M2 h2 => ?_
    · have := nd_len s' (namesW w) hnd hsb
      simp only [trueK, byN, List.length_map] at this ⊢
      omega
    · rw [setK_true, List.set_set] at h2
      refine ⟨h2, nd_insN hnd, fun y hy => ?_, _, rfl⟩
      rcases mem_insN.mp hy with z | z
      · exact hsb y z
      · exact z ▸ hxs x hxm
  · rintro G' M' ⟨hF, _, _, v, rfl⟩
    exact q M' hF v
theorem d_step {ws : List Str} (hM : Fs (wrest w l h) [] M) (hw : WOk w) (hla : LaOk w l) (hl : w.length ≤ 20) (hh : h.length ≤ 100) (hll : l.length ≤ 100) (w0 : 0 < ws.length) (w6 : ws.length ≤ 6) (hws : ∀ x ∈ ws, Tx AnyC 20 x)
    (q : ∀ r l' h' M', RecOk w r → r.nm.2 ∈ ws → LaOk (w ++ [r]) l' → h'.length ≤ h.length + 1 → l'.length ≤ l.length + 1 → Fs (wrest (w ++ [r]) l' h') [] M' → P .non M') : wpR (m_step [.ref 0, .ref 5, .lst (ws.map .str)] M) P E := by
  refine wp_gcW hM ?_
  have h0 : 0 ∉ ([] : List Nat) := by simp
  refine wp_def rfl ?_
  have hD : ∀ r l' h' M' tmp, RecOk w r → r.nm.2 ∈ ws → LaOk (w ++ [r]) l' → h'.length ≤ h.length + 1 → l'.length ≤ l.length + 1 → Fs (wrest (w ++ [r]) l' h' ++ tmp) [] M' →
      plain 60 AV.non = true ∧ ∃ rest' tmp, rest'.length = (wrest w l h).length ∧ Fs (rest' ++ tmp) [] M' ∧ (∀ c ∈ rest', cl ((wrest w l h).length + 1) c = true) ∧ ∀ M'', Fs rest' [] M'' → P .non M'' := fun r l' h' M' tmp hr hb hl' hh' hll' hF =>
    ⟨rfl, wrest (w ++ [r]) l' h', tmp, rfl, hF, cl_wrest fun s hs => ((WOk.snoc hw hr).deeds s hs).1, fun M'' h2 => q r l' h' M'' hr hb hl' hh' hll' h2⟩
  generalize hDD : defD (fun a M' => plain 60 a = true ∧ ∃ rest' tmp, rest'.length = (wrest w l h).length ∧ Fs (rest' ++ tmp) [] M' ∧ (∀ c ∈ rest', cl ((wrest w l h).length + 1) c = true) ∧ ∀ M'', Fs rest' [] M'' → P a M'') (fun _ _ _ => False) = D
  have hDn : ∀ G M', (plain 60 AV.non = true ∧ ∃ rest' tmp, rest'.length = (wrest w l h).length ∧ Fs (rest' ++ tmp) [] M' ∧ (∀ c ∈ rest', cl ((wrest w l h).length + 1) c = true) ∧ ∀ M'', Fs rest' [] M'' → P .non M'') → D.nx G M' := fun G M' z => by
    rw [← hDD]
    exact z
  clear hDD
  have hM : Fs (wrest w l h ++ []) [] M := by rwa [List.append_nil]
  unfold step_b
  refine wp_seq (fun G M => ∃ b, b ∈ ws ∧ G = stE ws (some (.str b)) none none none none none none none none none none ∧ Fs (wrest w l h ++ []) [] M) ?_ ?_
  · simp! []
    refine d_draw h0 hM (by simp; omega) (by simp; omega) fun n M1 n0 n1 h1 => ?_
    refine w_one n0 (by simpa using n1) fun a ha => ?_
    obtain ⟨b, hb, rfl⟩ := List.mem_map.mp ha
    exact ⟨b, hb, rfl, h1⟩
  rintro _ M ⟨b, hb, rfl, hM⟩
  refine wp_seq (fun G M => G = stE ws (some (.str b)) (some (.lst ((sortN (namesW w)).map nameA))) none none none none none none none none none ∧ Fs (wrest w l h ++ []) [] M) ?_ ?_
  · unfold stE
    simp! [w_ch hM, w_sortCh hM]
    exact hM
  rintro _ M ⟨rfl, hM⟩
  refine wp_seq (fun G M => ∃ g : List Nm, (∀ x ∈ g, x ∈ namesW w) ∧ g.length ≤ 1 ∧ (∀ n, lookL l b = some n → n ∈ g) ∧ G = stE ws (some (.str b)) (some (.lst ((sortN (namesW w)).map nameA))) (some (.ref 6)) none none none none none none none none ∧ Fs (wrest w l h ++ [.lst (g.map nameA)]) [] M) ?_ ?_
  · have hin : gIn false (.str b) (.ref 3) M = .ok (.bl (getK (laK l) (.inr b)).isSome) M := f_inK (i := 2) hM rfl rfl
    have hb5 : M.objs.length = 6 := hM.len
    unfold stE
    simp! [w_la hM, hin]
    rw [getK_la]
    cases e : lookL l b with
    | none =>
      simp! [Option.map_none, Option.isSome_none]
      rw [hb5]
      refine ⟨by simp, [], by simp, by simp, by simp, rfl, ?_⟩
      have := hM.push (.lst [])
      rwa [List.append_nil] at this
    | some n =>
      have hix : gIx (.ref 3) (.str b) M = .ok (nameA n) M := f_ixK (i := 2) hM rfl rfl (by rw [getK_la, e]; rfl)
      have hlb := hla b
      rw [e] at hlb
      simp! [Option.map_some, Option.isSome_some, w_la hM, hix]
      rw [hb5]
      refine ⟨by simp, [n], by simp; exact List.mem_map.mp hlb.1, by simp, by simp, rfl, ?_⟩
      have := hM.push (.lst [nameA n])
      rwa [List.append_nil] at this
  rintro _ M ⟨g, hg, hgl, hgb, rfl, hM⟩
  refine wp_seq (fun G M => ∃ g : List Nm, (∀ x ∈ g, x ∈ namesW w) ∧ (∀ n, lookL l b = some n → n ∈ g) ∧ G = stE ws (some (.str b)) (some (.lst ((sortN (namesW w)).map nameA))) (some (.ref 6)) none none none none none none none none ∧ Fs (wrest w l h ++ [.lst (g.map nameA)]) [] M) ?_ ?_
  · unfold stE
    have done : ∀ M', Fs (wrest w l h ++ [.lst (g.map nameA)]) [] M' → ∃ g' : List Nm, (∀ x ∈ g', x ∈ namesW w) ∧ (∀ n, lookL l b = some n → n ∈ g') ∧ Fs (wrest w l h ++ [.lst (g'.map nameA)]) [] M' := fun M' hF => ⟨g, hg, hgb, hF⟩
    simp! [v_neL0 (plain_namesL (sortN (namesW w)))]
    refine ⟨by simp, ?_⟩
    split
    · rename_i hne
      have hpos : 0 < (sortN (namesW w)).length := by
        cases e : sortN (namesW w) with
        | nil => simp [e] at hne
        | cons a r => simp
      refine d_draw h0 hM (by decide) (by decide) fun n M1 n0 n1 h1 => ?_
      simp! []
      split
      · refine ⟨f_tyL (i := 5) h1 rfl, ?_⟩
        have hls := len_sortN (namesW w)
        have hlw : (namesW w).length = w.length := List.length_map _
        refine d_draw h0 h1 (by simp; omega) (by simp; omega) fun k M2 k0 k1 h2 => ?_
        refine w_one k0 (by simpa using k1) fun a ha => ?_
        obtain ⟨n, hn, rfl⟩ := List.mem_map.mp ha
        refine f_append (i := 5) (xs := g.map nameA) h2 rfl (by simp; omega) fun M3 h3 => ?_
        have es : (wrest w l h ++ [AV.lst (g.map nameA)]).set 5 (.lst (g.map nameA ++ [nameA n])) = wrest w l h ++ [.lst ((g ++ [n]).map nameA)] := by
          rw [List.map_append]
          rfl
        rw [es] at h3
        refine ⟨g ++ [n], fun x hx => ?_, fun m hm => List.mem_append_left _ (hgb m hm), h3⟩
        rcases List.mem_append.mp hx with z | z
        · exact hg x z
        · rw [List.mem_singleton.mp z]
          exact mem_sortN.mp hn
      · exact done _ h1
    · exact done _ hM
  clear hg hgl hgb
  rintro _ M ⟨g, hg, hgb, rfl, hM⟩
  refine wp_seq (fun G M => G = stE ws (some (.str b)) (some (.lst ((sortN (namesW w)).map nameA))) (some (.ref 6)) (some (.ref 7)) none none none none none none none ∧ Fs (wrest w l h ++ [.lst (g.map nameA), .dT (trueK [])]) [] M) ?_ ?_
  · have hb6 : M.objs.length = 7 := hM.len
    unfold stE
    simp! []
    rw [hb6]
    have := hM.push (.dT [])
    rw [List.append_assoc] at this
    exact ⟨rfl, this⟩
  rintro _ M ⟨rfl, hM⟩
  refine wp_seq (fun G M => ∃ o7 o8, G = stE ws (some (.str b)) (some (.lst ((sortN (namesW w)).map nameA))) (some (.ref 6)) (some (.ref 7)) o7 o8 none none none none none ∧ Fs (wrest w l h ++ [.lst (g.map nameA), .dT (trueK (addAll (fun n => knowsW w n ++ [n]) [] g))]) [] M) ?_ ?_
  · have hsq : seqOf M (.ref 6) = some ⟨g.map nameA, some 6⟩ := f_seq (i := 5) hM rfl
    unfold stE
    rw [wpS_for]
    simp! [hsq]
    have hknow := hw.trans
    refine wp_fold nameA (fun acc n => insAll acc (knowsW w n ++ [n])) (fun s G M => Fs (wrest w l h ++ [.lst (g.map nameA), .dT (trueK s)]) [] M ∧ s.Nodup ∧ (∀ x ∈ s, x ∈ namesW w) ∧ ∃ o7 o8, G = stE ws (some (.str b)) (some (.lst ((sortN (namesW w)).map nameA))) (some (.ref 6)) (some (.ref 7)) o7 o8 none none none none none) (fun s G M hI => f_held (i := 5) hI.1 rfl) g [] _ _ ⟨hM, by simp, by simp, none, none, rfl⟩ ?_ ?_
    · rintro s n G M hn ⟨hF, hnd, hsb, o7, o8, rfl⟩
      obtain ⟨r, e1, hr, e2, e3⟩ := knows_in (hg n hn)
      have hkn := w_knAt hF e1
      have hkl := hknow n (hg n hn)
      rw [e3] at hkl
      have hrl : r.floor.length ≤ 20 := by
        have := nd_len r.floor (namesW w) hkl.2 fun x hx => (hkl.1 x hx).1
        simp only [namesW, List.length_map] at this
        omega
      unfold stE
      simp! [w_kn hF, hkn, flA]
      refine ⟨by simp, by simp; omega, ?_⟩
      rw [show r.floor.map nameA ++ [nameA n] = (r.floor ++ [n]).map nameA by simp]
      refine d_wanted (w := w) (iv := 6) (n := n) (s := s) (xs := r.floor ++ [n]) rfl hF rfl hnd hsb (fun x hx => ?_) hl 8 (by simp) (fun v M => rfl) fun M' h' v => ?_
      · rcases List.mem_append.mp hx with z | z
        · exact (hkl.1 x z).1
        · rw [List.mem_singleton.mp z]
          exact hg n hn
      · refine ⟨?_, nd_insAll hnd, fun x hx => ?_, some (nameA n), v, rfl⟩
        · rw [e3]
          exact h'
        · rw [e3] at hx
          rcases mem_insAll.mp hx with z | z
          · exact hsb x z
          · rcases List.mem_append.mp z with z | z
            · exact (hkl.1 x z).1
            · rw [List.mem_singleton.mp z]
              exact hg n hn
    · rintro G M ⟨hF, hnd, hsb, o7, o8, rfl⟩
      exact ⟨o7, o8, rfl, hF⟩
  rintro _ M ⟨o7, o8, rfl, hM⟩
  have hknow := hw.trans
  have hwa : ∀ x, x ∈ addAll (fun n => knowsW w n ++ [n]) [] g ↔ ∃ n ∈ g, x ∈ knowsW w n ∨ x = n := fun x => by
    rw [mem_addAll]
    simp
  have hwn : (addAll (fun n => knowsW w n ++ [n]) [] g).Nodup := nd_addAll (by simp)
  generalize addAll (fun n => knowsW w n ++ [n]) [] g = wa at hwa hwn hM
  refine wp_seq (fun G M => G = stE ws (some (.str b)) (some (.lst ((sortN (namesW w)).map nameA))) (some (.ref 6)) (some (.ref 7)) o7 o8 (some (.lst ((sortN wa).map nameA))) none none none none ∧ Fs (wrest w l h ++ [.lst (g.map nameA), .dT (trueK wa)]) [] M) ?_ ?_
  · have hs : gSorted [.ref 7] M = .ok (.lst ((sortN (wa.map id)).map nameA)) M := f_sortN (i := 6) (f := id) (g := fun _ => .bl true) (w := wa) hM rfl
    rw [List.map_id] at hs
    unfold stE
    simp! [hs]
    exact hM
  rintro _ M ⟨rfl, hM⟩
  have hfl : ∀ x, x ∈ sortN wa ↔ ∃ n ∈ g, x ∈ knowsW w n ∨ x = n := fun x => mem_sortN.trans (hwa x)
  have hfn : (sortN wa).Nodup := nd_sortN hwn
  have hfso : ∃ L, sortN wa = sortN L := ⟨wa, rfl⟩
  generalize sortN wa = fl at hfl hfn hfso hM
  have hfw : ∀ x ∈ fl, x ∈ namesW w := fun x hx => by
    obtain ⟨n, hn, z⟩ := (hfl x).mp hx
    rcases z with z | z
    · exact ((hknow n (hg n hn)).1 x z).1
    · exact z ▸ hg n hn
  have hfc : ∀ x ∈ fl, ∀ y ∈ knowsW w x, y ∈ fl := fun x hx y hy => by
    obtain ⟨n, hn, z⟩ := (hfl x).mp hx
    refine (hfl y).mpr ⟨n, hn, .inl ?_⟩
    rcases z with z | z
    · exact ((hknow n (hg n hn)).1 x z).2.2 y hy
    · exact z ▸ hy
  have hfll : fl.length ≤ 20 := by
    have := nd_len fl (namesW w) hfn hfw
    simp only [namesW, List.length_map] at this
    omega
  refine wp_seq (fun G M => G = stE ws (some (.str b)) (some (.lst ((sortN (namesW w)).map nameA))) (some (.ref 6)) (some (.ref 7)) o7 o8 (some (.lst (fl.map nameA))) (some (.ref 8)) none none none ∧ Fs (wrest w l h ++ [.lst (g.map nameA), .dT (trueK wa), .dT (trueK [])]) [] M) ?_ ?_
  · have hb6 : M.objs.length = 8 := hM.len
    unfold stE
    simp! []
    rw [hb6]
    have := hM.push (.dT [])
    rw [List.append_assoc] at this
    exact ⟨rfl, this⟩
  rintro _ M ⟨rfl, hM⟩
  refine wp_seq (fun G M => ∃ o7 o8, G = stE ws (some (.str b)) (some (.lst ((sortN (namesW w)).map nameA))) (some (.ref 6)) (some (.ref 7)) o7 o8 (some (.lst (fl.map nameA))) (some (.ref 8)) none none none ∧ Fs (wrest w l h ++ [.lst (g.map nameA), .dT (trueK wa), .dT (trueK (addAll (knowsW w) [] fl))]) [] M) ?_ ?_
  · unfold stE
    rw [wpS_for]
    simp! []
    refine wp_fold (S := ⟨_, none⟩) nameA (fun acc n => insAll acc (knowsW w n)) (fun s G M => Fs (wrest w l h ++ [.lst (g.map nameA), .dT (trueK wa), .dT (trueK s)]) [] M ∧ s.Nodup ∧ (∀ x ∈ s, x ∈ namesW w) ∧ ∃ o7 o8, G = stE ws (some (.str b)) (some (.lst ((sortN (namesW w)).map nameA))) (some (.ref 6)) (some (.ref 7)) o7 o8 (some (.lst (fl.map nameA))) (some (.ref 8)) none none none) (fun s G M hI => trivial) fl [] _ _ ⟨hM, by simp, by simp, o7, o8, rfl⟩ ?_ ?_
    · rintro s n G M hn ⟨hF, hnd, hsb, o7, o8, rfl⟩
      obtain ⟨r, e1, hr, e2, e3⟩ := knows_in (hfw n hn)
      have hkn := w_knAt hF e1
      have hkl := hknow n (hfw n hn)
      rw [e3] at hkl
      unfold stE
      simp! [w_kn hF, hkn, flA]
      refine d_wanted (w := w) (iv := 7) (n := n) (s := s) (xs := r.floor) rfl hF rfl hnd hsb (fun x hx => (hkl.1 x hx).1) hl 7 (by simp) (fun v M => rfl) fun M' h' v => ?_
      refine ⟨?_, nd_insAll hnd, fun x hx => ?_, v, some (nameA n), rfl⟩
      · rw [e3]
        exact h'
      · rw [e3] at hx
        rcases mem_insAll.mp hx with z | z
        · exact hsb x z
        · exact (hkl.1 x z).1
    · rintro G M ⟨hF, hnd, hsb, o7, o8, rfl⟩
      exact ⟨o7, o8, rfl, hF⟩
  clear o7 o8
  rintro _ M ⟨o7, o8, rfl, hM⟩
  have hbe : ∀ x, x ∈ addAll (knowsW w) [] fl ↔ ∃ y ∈ fl, x ∈ knowsW w y := fun x => by
    rw [mem_addAll]
    simp
  generalize addAll (knowsW w) [] fl = be at hbe hM
  have hba : ∀ x, (!decide (x ∈ be)) = decide (∀ y ∈ fl, x ∉ knowsW w y) := fun x => by
    rw [← decide_not]
    apply decide_eq_decide.mpr
    rw [hbe]
    exact ⟨fun z y hy hx => z ⟨y, hy, hx⟩, fun z ⟨y, hy, hx⟩ => z y hy hx⟩
  refine wp_seq (fun G M => G = stE ws (some (.str b)) (some (.lst ((sortN (namesW w)).map nameA))) (some (.ref 6)) (some (.ref 7)) o7 o8 (some (.lst (fl.map nameA))) (some (.ref 8)) (some (.tup ((fl.filter fun x => decide (∀ y ∈ fl, x ∉ knowsW w y)).map nameA))) none none ∧ Fs (wrest w l h ++ [.lst (g.map nameA), .dT (trueK wa), .dT (trueK be)]) [] M) ?_ ?_
  · unfold stE
    simp! []
    have hlc := lcl_map (l0 := fl.map nameA) (t := gNm 8) (c := mBl (mBin (gIn true) (mVar 8) (mVar 10))) (el := mVar 8) (G := [some (.ref 0), some (.ref 5), some (.lst (ws.map .str)), some (.str b), some (.lst ((sortN (namesW w)).map nameA)), some (.ref 6), some (.ref 7), o7, none, some (.lst (fl.map nameA)), some (.ref 8), none, none, none]) (M := M) nameA (fun x => decide (∀ y ∈ fl, x ∉ knowsW w y)) nameA fl [] (by simp; omega) fun x hx => ⟨_, rfl, wpR_eq (by
      have hin : gIn true (nameA x) (.ref 8) M = .ok (.bl (if true then !(getK (trueK be) (nameK x)).isSome else (getK (trueK be) (nameK x)).isSome)) M := f_inT (i := 7) hM rfl (keyT_name x)
      rw [if_pos rfl, getK_isSome, List.map_id, hba] at hin
      simp! [hin]), fun _ => rfl⟩
    rw [List.nil_append] at hlc
    rw [hlc]
    simp! []
    exact hM
  rintro _ M ⟨rfl, hM⟩
  refine wp_seq (fun G M => G = stE ws (some (.str b)) (some (.lst ((sortN (namesW w)).map nameA))) (some (.ref 6)) (some (.ref 7)) o7 o8 (some (.lst (fl.map nameA))) (some (.ref 8)) (some (.tup ((fl.filter fun x => decide (∀ y ∈ fl, x ∉ knowsW w y)).map nameA))) (some (nameA (1 + maxD0 0 (fl.map (·.1)), b))) none ∧ Fs (wrest w l h ++ [.lst (g.map nameA), .dT (trueK wa), .dT (trueK be)]) [] M) ?_ ?_
  · unfold stE
    simp! []
    have hlc := lcl_map (l0 := fl.map nameA) (t := gNm 8) (c := fun _ M => .ok true M) (el := mBin gIx (mVar 8) (mC (.int 0))) (G := [some (.ref 0), some (.ref 5), some (.lst (ws.map .str)), some (.str b), some (.lst ((sortN (namesW w)).map nameA)), some (.ref 6), some (.ref 7), o7, none, some (.lst (fl.map nameA)), some (.ref 8), some (.tup ((fl.filter fun x => decide (∀ y ∈ fl, x ∉ knowsW w y)).map nameA)), none, none]) (M := M) nameA (fun _ => true) (fun n => .int n.1) fl [] (by simp; omega) fun x hx => ⟨_, rfl, rfl, fun _ => wpR_eq (by
      have e0 : atI [AV.int x.1, .str x.2] 0 = some (.int x.1) := rfl
      simp! [nameA, w_ixT, e0]
      try simp)⟩
    rw [List.nil_append, List.filter_eq_self.mpr fun _ _ => rfl, show (fl.map fun n : Nm => AV.int n.1) = (fl.map (·.1)).map .int by rw [List.map_map]; rfl] at hlc
    rw [hlc]
    simp! [v_maxDf]
    exact ⟨by simp, rfl, hM⟩
  rintro _ M ⟨rfl, hM⟩
  refine wp_seq (fun G M => ∃ d, DeedOk d ∧ G = stE ws (some (.str b)) (some (.lst ((sortN (namesW w)).map nameA))) (some (.ref 6)) (some (.ref 7)) o7 o8 (some (.lst (fl.map nameA))) (some (.ref 8)) (some (.tup ((fl.filter fun x => decide (∀ y ∈ fl, x ∉ knowsW w y)).map nameA))) (some (nameA (1 + maxD0 0 (fl.map (·.1)), b))) (some d) ∧ Fs (wrest w l h ++ [.lst (g.map nameA), .dT (trueK wa), .dT (trueK be)]) [] M) ?_ ?_
  · unfold stE
    simp! []
    exact d_deed hM hfw (fun r hr => (hw.deeds r hr).1) (fun x hx => hw.names x (hfw x hx)) (by omega) fun d M' hd h' => ⟨d, hd, rfl, h'⟩
  rintro _ M ⟨d, hd, rfl, hM⟩
  obtain ⟨s, dr, rfl⟩ := hd.hd
  refine wp_seq (fun G M => ∃ h' : List Nm, h'.length ≤ h.length + 1 ∧ G = stE ws (some (.str b)) (some (.lst ((sortN (namesW w)).map nameA))) (some (.ref 6)) (some (.ref 7)) o7 o8 (some (.lst (fl.map nameA))) (some (.ref 8)) (some (.tup ((fl.filter fun x => decide (∀ y ∈ fl, x ∉ knowsW w y)).map nameA))) (some (nameA (1 + maxD0 0 (fl.map (·.1)), b))) (some (.tup (.str s :: dr))) ∧ Fs (wrest w l h' ++ [.lst (g.map nameA), .dT (trueK wa), .dT (trueK be)]) [] M) ?_ ?_
  · have e0 : atI (AV.str s :: dr) 0 = some (.str s) := by
      have : atI (AV.str s :: dr) 0 = ((AV.str s :: dr)[0]?) := by
        unfold atI ixN
        simp
      rw [this]
      rfl
    unfold stE
    simp! [w_ixT, e0]
    split
    · simp! [w_ha hM]
      refine ⟨f_tyL (i := 3) hM rfl, ?_⟩
      refine f_append (i := 3) (xs := h.map nameA) hM rfl (by simp; omega) fun M3 h3 => ?_
      have es : (wrest w l h ++ [AV.lst (g.map nameA), .dT (trueK wa), .dT (trueK be)]).set 3 (.lst (h.map nameA ++ [nameA (1 + maxD0 0 (fl.map (·.1)), b)])) = wrest w l (h ++ [(1 + maxD0 0 (fl.map (·.1)), b)]) ++ [.lst (g.map nameA), .dT (trueK wa), .dT (trueK be)] := by
        unfold wrest
        rw [List.map_append]
        rfl
      rw [es] at h3
      exact ⟨h ++ [(1 + maxD0 0 (fl.map (·.1)), b)], by simp, h3⟩
    · simp! []
      exact ⟨h, by omega, hM⟩
  rintro _ M ⟨h', hh', rfl, hM⟩
  have hNm : NmOk (1 + maxD0 0 (fl.map (·.1)), b) := by
    have hc : maxD0 0 (fl.map (·.1)) ≤ w.length ∧ 0 ≤ maxD0 0 (fl.map (·.1)) := by
      rcases maxD0_in (fl.map (·.1)) with z | z
      · omega
      · obtain ⟨x, hx, e⟩ := List.mem_map.mp z
        have := cnt_le hw x (hfw x hx)
        have := (hw.names x (hfw x hx)).lo
        omega
    exact ⟨by show 1 ≤ 1 + _; omega, by show 1 + _ ≤ (100 : Int); omega, hws b hb⟩
  have hRec : ∀ hand, Tx AnyC 20 hand → RecOk w ⟨(1 + maxD0 0 (fl.map (·.1)), b), hand, fl.filter fun x => decide (∀ y ∈ fl, x ∉ knowsW w y), .tup (.str s :: dr), fl⟩ := fun hand hh => ⟨hfw, hfn, hfso, hfc, rfl, rfl, fun t ht e => by
    have hlb := hla b
    cases e2 : lookL l b with
    | none =>
      rw [e2] at hlb
      exact absurd e (hlb t ht)
    | some n =>
      rw [e2] at hlb
      refine (hfl t.nm).mpr ⟨n, hgb n e2, ?_⟩
      rcases hlb.2 t ht e with z | z
      · exact .inr z
      · exact .inl z, hNm, hh, hd⟩
  refine wp_seq (fun G M => ∃ hand, Tx AnyC 20 hand ∧ G = stE ws (some (.str b)) (some (.lst ((sortN (namesW w)).map nameA))) (some (.ref 6)) (some (.ref 7)) o7 o8 (some (.lst (fl.map nameA))) (some (.ref 8)) (some (.tup ((fl.filter fun x => decide (∀ y ∈ fl, x ∉ knowsW w y)).map nameA))) (some (nameA (1 + maxD0 0 (fl.map (·.1)), b))) (some (.tup (.str s :: dr))) ∧
      Fs ([.dT (chK (w ++ [⟨(1 + maxD0 0 (fl.map (·.1)), b), hand, fl.filter fun x => decide (∀ y ∈ fl, x ∉ knowsW w y), .tup (.str s :: dr), fl⟩])), .dT (knK w), .dK (laK l), .lst (h'.map nameA), wdA] ++ [.lst (g.map nameA), .dT (trueK wa), .dT (trueK be)]) [] M) ?_ ?_
  · unfold stE
    simp! []
    refine d_draw h0 hM (by simp; omega) (by simp; omega) fun n M1 n0 n1 h1 => ?_
    refine w_one n0 (by simpa using n1) fun a ha => ?_
    obtain ⟨hand, hhand, rfl⟩ := List.mem_map.mp ha
    simp! []
    refine ⟨by simp, ?_⟩
    have hr := hRec hand (hws hand hhand)
    refine f_putT (i := 0) (kvs := chK w) h1 rfl (by simp [chK, byN]; omega) (wpR_eq (by simp! [w_ch h1])) rfl (keyT_name _) fun M2 h2 => ?_
    have es := setK_new (f := Rc.nm) (g := recA) (w := w) (r := ⟨(1 + maxD0 0 (fl.map (·.1)), b), hand, fl.filter fun x => decide (∀ y ∈ fl, x ∉ knowsW w y), .tup (.str s :: dr), fl⟩) hr.new
    exact ⟨hand, hws hand hhand, rfl, Eq.mp (congrArg (fun z => Fs ([.dT z, .dT (knK w), .dK (laK l), .lst (h'.map nameA), wdA] ++ [.lst (g.map nameA), .dT (trueK wa), .dT (trueK be)]) [] M2) es) h2⟩
  rintro _ M ⟨hand, hhand, rfl, hM⟩
  have hr := hRec hand hhand
  generalize hR : Rc.mk (1 + maxD0 0 (fl.map (·.1)), b) hand (fl.filter fun x => decide (∀ y ∈ fl, x ∉ knowsW w y)) (.tup (.str s :: dr)) fl = R at hr hM
  have eR : R.nm = (1 + maxD0 0 (fl.map (·.1)), b) := by rw [← hR]
  have eF : R.floor = fl := by rw [← hR]
  rw [← eR, ← eF]
  have hk : R.nm ∉ namesW w := hr.new
  refine wp_seq (fun G M => G = stE ws (some (.str b)) (some (.lst ((sortN (namesW w)).map nameA))) (some (.ref 6)) (some (.ref 7)) o7 o8 (some (.lst (R.floor.map nameA))) (some (.ref 8)) (some (.tup ((R.floor.filter fun x => decide (∀ y ∈ R.floor, x ∉ knowsW w y)).map nameA))) (some (nameA R.nm)) (some (.tup (.str s :: dr))) ∧
      Fs ([.dT (chK (w ++ [R])), .dT (knK (w ++ [R])), .dK (laK l), .lst (h'.map nameA), wdA] ++ [.lst (g.map nameA), .dT (trueK wa), .dT (trueK be)]) [] M) ?_ ?_
  · unfold stE
    have e5 : ∀ M, gIx (.ref 5) (.str "knows") M = gIx (.ref 5) (.str "knows") M := fun _ => rfl
    simp! []
    refine f_putT (i := 1) (kvs := knK w) hM rfl (by simp [knK, byN]; omega) (wpR_eq (by
      have := f_ixK (i := 4) hM rfl (b := .str "knows") rfl wd_kn
      simp! [this])) rfl (keyT_name _) fun M2 h2 => ?_
    have es := setK_new (f := Rc.nm) (g := flA) (w := w) (r := R) hk
    exact ⟨rfl, Eq.mp (congrArg (fun z => Fs ([.dT (chK (w ++ [R])), .dT z, .dK (laK l), .lst (h'.map nameA), wdA] ++ [.lst (g.map nameA), .dT (trueK wa), .dT (trueK be)]) [] M2) es) h2⟩
  rintro _ M ⟨rfl, hM⟩
  unfold stE
  simp! []
  refine f_putK (i := 2) (kvs := laK l) hM rfl ?_ (wpR_eq (by
    have := f_ixK (i := 4) hM rfl (b := .str "last") rfl wd_la
    simp! [this])) rfl rfl fun M2 h2 => ?_
  · rw [laK, List.length_map]
    omega
  rw [setK_la] at h2
  have eb : R.nm.2 = b := by rw [eR]
  refine hDn _ _ (hD R (setL' l b R.nm) h' M2 [.lst (g.map nameA), .dT (trueK wa), .dT (trueK be)] hr (by rw [eb]; exact hb) (by rw [← eb]; exact hla.snoc hr) (by omega) (len_setL l b R.nm) h2)
end
end Px

namespace Px
open PySem hiding Env plain
open L2 Mx StrLaws PySem.W
local macro_rules | `(tactic| simp! [$ls,*]) => `(tactic| try simp -implicitDefEqProofs only [List.map_cons, List.map_nil, List.cons_append, List.nil_append, List.replicate, List.set_cons_succ, List.set_cons_zero, wipeG, wpS_then, wpS_set, wpS_if, wpS_mret, wpS_retN, wpS_mnext, wpS_mbrk, wpS_mcnt, wpS_exp, wpS_asg, wpS_for, w_c, w_bin, w_un, w_ifE, w_andV, w_orV, w_notV, w_call, w_chain, w_meth, w_meth0, w_sl, w_noPart, w_part, w_nil, w_cons, w_bl, w_tru, w_and, w_or, w_not, w_lcV, w_lcR, w_lc, w_seq, w_rng1, w_rng2, w_var0, w_var1, w_var2, w_var3, w_var4, w_var5, w_var6, w_var7, w_var8, w_var9, w_var10, w_var11, w_var12, w_var13, w_var14, w_var15, w_var16, w_var17, w_var18, w_var19, w_var20, w_dictT, w_dictK, w_callK, wpR_ok, wpR_sized, v_nm, v_addI, v_addS, v_addT, v_addL, v_sub, v_neg, w_mul, w_div, w_mod, w_pow, v_ordI, v_eqI, v_neI, v_eqS, v_neS, v_lenS, v_lenL, v_lenF, v_lenT, v_truB, v_seqS, v_seqT, v_seqL, v_seqF, v_listT, v_listL, v_tupleL, v_tupleT, v_tupD, v_lstD, v_lstR, v_slT, v_slL, v_slF, w_slS, defD_rt, defD_nx, defD_ex, defD_bk, defD_ct, AV.bl.injEq, AV.int.injEq, Option.some.injEq, exists_eq_left', tyS, if_true, if_false, Bool.false_eq_true, true_and, and_true, $ls,*])
structure World (ws : List Str) (w : List Rc) (l : List (Str × Nm)) (h : List Nm) : Prop where
  ok : WOk w
  la : LaOk w l
  wl : w.length ≤ 20
  hl : h.length ≤ w.length
  ll : l.length ≤ w.length
  br : ∀ r ∈ w, r.nm.2 ∈ ws
section
variable {ws : List Str} {w : List Rc} {l : List (Str × Nm)} {h : List Nm} {tmp : List AV} {M : AH} {P : AV → AH → Prop} {E : Str → List (Str × AV) → AH → Prop}
theorem wd_merge : mergeA [(.inr ("changes" : Str), .ref 1), (.inr ("knows" : Str), .ref 2), (.inr ("last" : Str), .ref 3), (.inr ("hangs" : Str), .ref 4)] = wdL := by kernel_rfl
theorem d_world {n : Int} (hM : Fs [] [] M) (w0 : 0 < ws.length) (w6 : ws.length ≤ 6) (hws : ∀ x ∈ ws, Tx AnyC 20 x) (n0 : 0 ≤ n) (n1 : n ≤ 17)
    (q : ∀ w l h M', World ws w l h → w.length = n.toNat → Fs (wrest w l h) [] M' → P (.ref 5) M') : wpR (m_world [.ref 0, .lst (ws.map .str), .int n] M) P E := by
  have hb : wpR (mDef 3 2 world_b [.ref 0, .lst (ws.map .str), .int n] M) (fun a M' => a = .ref 5 ∧ ∃ w l h, World ws w l h ∧ w.length = n.toNat ∧ Fs (wrest w l h) [] M') (fun _ _ _ => False) := by
    refine wp_def rfl ?_
    unfold world_b
    refine wp_seq (fun G M => G = [some (.ref 0), some (.lst (ws.map .str)), some (.int n), some (.ref 5), none] ∧ Fs (wrest [] [] []) [] M) ?_ ?_
    · obtain ⟨cs, a, l, k, rfl⟩ := hM
      simp -implicitDefEqProofs only [List.map_cons, List.map_nil, List.cons_append, List.nil_append, List.replicate, wpS_set, w_disp, w_kCons, w_kNil, w_dictT, w_dictK, w_nil, w_call, v_lstR, wpR_sized, wpR_ok, List.set_cons_succ, List.set_cons_zero]
      refine ⟨by simp, by simp, ?_, ?_⟩
      · rfl
      · refine ⟨cs, a, l, k, ?_⟩
        have e := wd_merge
        show AH.mk (fd cs a l k :: ([] ++ [AV.dT []] ++ [AV.dT []] ++ [AV.dK []] ++ [AV.lst []] ++ [.dK (mergeA [(.inr ("changes" : Str), .ref 1), (.inr ("knows" : Str), .ref 2), (.inr ("last" : Str), .ref 3), (.inr ("hangs" : Str), .ref 4)])])) [] = _
        rw [e]
        rfl
    rintro _ M ⟨rfl, hM⟩
    refine wp_seq (fun G M => G.take 4 = [some (.ref 0), some (.lst (ws.map .str)), some (.int n), some (.ref 5)] ∧ ∃ w l h, World ws w l h ∧ w.length = n.toNat ∧ Fs (wrest w l h) [] M) ?_ ?_
    · rw [wpS_for]
      simp! []
      rw [w_gRng1 (by unfold rngOk; simp; omega)]
      refine wp_loop (fun k G M => (∃ g4, G = [some (.ref 0), some (.lst (ws.map .str)), some (.int n), some (.ref 5), g4]) ∧ ∃ w l h, World ws w l h ∧ w.length = k ∧ Fs (wrest w l h) [] M) _ 0 _ _ ⟨⟨_, rfl⟩, [], [], [], ⟨.nil, fun b => by simp [lookL], by simp, by simp, by simp, by simp⟩, rfl, hM⟩ ?_ ?_
      · rintro j a G M hj ⟨⟨g4, rfl⟩, w, l, h, hw, hl, hF⟩
        have hj2 : j < n.toNat := by
          have := (List.getElem?_eq_some_iff.mp hj).1
          rwa [rng_len] at this
        simp! []
        refine d_step hF hw.ok hw.la hw.wl (by have := hw.hl; omega) (by have := hw.ll; omega) w0 w6 hws fun r l' h' M' hr hb hl' hh' hll' h2 => ?_
        refine ⟨⟨_, rfl⟩, w ++ [r], l', h', ⟨.snoc hw.ok hr, hl', by simp; omega, by have := hw.hl; simp; omega, by have := hw.ll; simp; omega, fun s hs => ?_⟩, by simp; omega, h2⟩
        rcases List.mem_append.mp hs with z | z
        · exact hw.br s z
        · rw [List.mem_singleton.mp z]
          exact hb
      · rintro G M ⟨⟨g4, rfl⟩, w, l, h, hw, hl, hF⟩
        rw [rng_len, Nat.zero_add] at hl
        exact ⟨rfl, w, l, h, hw, hl, hF⟩
    rintro G M ⟨hG, hW⟩
    obtain ⟨g0, g1, g2, g3, r, rfl⟩ : ∃ g0 g1 g2 g3 r, G = g0 :: g1 :: g2 :: g3 :: r := by
      match G, hG with
      | a :: b :: c :: d :: r, _ => exact ⟨a, b, c, d, r, rfl⟩
    simp only [List.take_succ_cons, List.take_zero, List.cons.injEq, and_true] at hG
    obtain ⟨rfl, rfl, rfl, rfl⟩ := hG
    simp! []
    exact hW
  unfold m_world gc
  cases e : mDef 3 2 world_b [.ref 0, .lst (ws.map .str), .int n] M with
  | ok a M' =>
    rw [e] at hb
    obtain ⟨rfl, w, l, h, hw, hl, hF⟩ := hb
    have hl1 : M.objs.length = 1 := hM.len
    have hc : cl 1 (fin 1 M' (.ref 5)) = false := by
      obtain ⟨cs, a, l', k, rfl⟩ := hF
      rfl
    rw [hl1]
    simp only [hc, Bool.false_eq_true, and_false, if_false, wpR_ok]
    exact q w l h M' hw hl hF
  | exc c fs M => rw [e] at hb; exact hb.elim
  | stuck => rw [e] at hb; exact hb.elim
def recOf (w : List Rc) (n : Nm) : Rc := (w.find? fun r => decide (r.nm = n)).getD ⟨n, "", [], .non, []⟩
theorem recOf_nm (w : List Rc) (n : Nm) : (recOf w n).nm = n := by
  unfold recOf
  cases e : w.find? fun r => decide (r.nm = n) with
  | none => rfl
  | some r => exact (by simpa using List.find?_some e)
theorem recOf_in {n : Nm} (hn : n ∈ namesW w) : (w.find? fun r => decide (r.nm = n)) = some (recOf w n) ∧ recOf w n ∈ w ∧ (recOf w n).floor = knowsW w n := by
  obtain ⟨r, e1, hr, e2, e3⟩ := knows_in hn
  have : recOf w n = r := by simp [recOf, e1]
  rw [this]
  exact ⟨e1, hr, e3.symm⟩
def ledA (w : List Rc) (L : List Nm) : AV := .tup (L.map fun n => recA (recOf w n))
noncomputable def allN (w : List Rc) : List Nm := sortN (namesW w)
theorem mem_allN {n : Nm} : n ∈ allN w ↔ n ∈ namesW w := mem_sortN
theorem len_allN : (allN w).length = w.length := by
  unfold allN
  rw [len_sortN, List.length_map]
theorem d_ledger {L : List Nm} (hM : Fs (wrest w l h ++ tmp) [] M) (hl : w.length ≤ 20) : m_ledger [.ref 5, .lst (L.map nameA)] M = .ok (ledA w ((allN w).filter fun n => decide (n ∈ L))) M := by
  refine pure_eq rfl ?_
  unfold ledger_b
  simp! [w_ch hM, w_sortCh hM]
  have hal := len_allN (w := w)
  have hlc := lcl_map (l0 := (sortN (namesW w)).map nameA) (t := gNm 2) (c := mBl (mBin (gIn false) (mVar 2) (mVar 1))) (el := mBin gIx (mBin gIx (mVar 0) (mC (.str "changes"))) (mVar 2)) (G := [some (.ref 5), some (.lst (L.map nameA)), none]) (M := M) nameA (fun n => decide (n ∈ L)) (fun n => recA (recOf w n)) (allN w) [] (by simp; omega) fun x hx => ⟨_, rfl, wpR_eq (by
    simp! [v_inN]), fun _ => wpR_eq (by
    have := w_chAt hM (recOf_in (mem_allN.mp hx)).1
    simp! [w_ch hM, this])⟩
  rw [List.nil_append] at hlc
  unfold allN at hlc
  rw [hlc]
  simp! []
  first | exact ⟨rfl, rfl⟩ | rfl
end
end Px

namespace Px
open PySem hiding Env plain
open L2 Mx StrLaws PySem.W
section
variable {M : AH} {G : Env} {E : Str → List (Str × AV) → AH → Prop} {P : Env → AH → Prop}
@[simp] theorem w_gTp (n : Nat) (u : TMs) (as : List AV) : wpR (gTp n u (.tup as) G M) P E = (as.length = n ∧ wpR (u as G M) P E) := by
  show wpR (if as.length = n then u as G M else .stuck) P E = _
  by_cases h : as.length = n <;> simp [h]
@[simp] theorem w_gsCons (t : TMt) (u : TMs) (a : AV) (r : List AV) : wpR (gsCons t u (a :: r) G M) P E = wpR (t a G M) (fun G1 M1 => wpR (u r G1 M1) P E) E := by
  show wpR ((t a G M).bind fun G1 M1 => u r G1 M1) P E = _
  rw [wpR_bind]
@[simp] theorem w_gsNil : wpR (gsNil [] G M) P E = P G M := byrfl rfl
end
section
variable {w : List Rc}
theorem WOk.base (h : WOk w) : ∀ n ∈ namesW w, (recOf w n).base = (knowsW w n).filter fun x => decide (∀ y ∈ knowsW w n, x ∉ knowsW w y) := by
  have key : ∀ r ∈ w, r.base = r.floor.filter fun x => decide (∀ y ∈ r.floor, x ∉ knowsW w y) := by
    induction h with
    | nil => simp
    | @snoc w r hw hr ih =>
      intro s hs
      rcases List.mem_append.mp hs with z | z
      · have hsn : s.nm ∈ namesW w := List.mem_map.mpr ⟨s, z, rfl⟩
        rw [ih s z]
        have hfl : ∀ y ∈ s.floor, y ∈ namesW w := by
          intro y hy
          have hk : knowsW w s.nm = s.floor := by
            obtain ⟨t, e1, ht, e2, e3⟩ := knows_in hsn
            rw [e3]
            have nd := hw.nd
            have : t = s := by
              obtain ⟨i, hi, ei⟩ := List.mem_iff_getElem.mp ht
              obtain ⟨j, hj, ej⟩ := List.mem_iff_getElem.mp z
              have := (List.getElem_inj (xs := namesW w) (i := i) (j := j) (h₀ := by simpa using hi) (h₁ := by simpa using hj) nd).mp (by simp [ei, ej, e2])
              subst this
              rw [← ei, ← ej]
            rw [this]
          exact ((hw.trans s.nm hsn).1 y (by rw [hk]; exact hy)).1
        refine List.filter_congr fun x hx => ?_
        apply decide_eq_decide.mpr
        exact ⟨fun q y hy => by rw [knows_app (hfl y hy)]; exact q y hy, fun q y hy => by rw [← knows_app (r := r) (hfl y hy)]; exact q y hy⟩
      · rw [List.mem_singleton.mp z, hr.ba]
        refine List.filter_congr fun x hx => ?_
        apply decide_eq_decide.mpr
        exact ⟨fun q y hy => by rw [knows_app (hr.fl y hy)]; exact q y hy, fun q y hy => by rw [← knows_app (r := r) (hr.fl y hy)]; exact q y hy⟩
  intro n hn
  obtain ⟨e1, hr, e2⟩ := recOf_in hn
  rw [key _ hr, e2]
def Closed (w : List Rc) (L : List Nm) : Prop := ∀ x ∈ L, x ∈ namesW w ∧ ∀ y ∈ knowsW w x, y ∈ L
theorem base_knows (h : WOk w) {L : List Nm} (hc : Closed w L) (x : Nm) : (∃ c ∈ L, x ∈ (recOf w c).base) ↔ ∃ c ∈ L, x ∈ knowsW w c := by
  constructor
  · rintro ⟨c, hc1, hx⟩
    rw [h.base c (hc c hc1).1] at hx
    exact ⟨c, hc1, (List.mem_filter.mp hx).1⟩
  · rintro ⟨c, hc1, hx⟩
    have go : ∀ (k : Nat) (c : Nm), c.1.toNat ≤ k → c ∈ L → x ∈ knowsW w c → ∃ c ∈ L, x ∈ (recOf w c).base := by
      intro k
      induction k with
      | zero =>
        intro c hk hcL hx
        have := (h.names c (hc c hcL).1).lo
        omega
      | succ k ih =>
        intro c hk hcL hx
        by_cases hb : ∀ y ∈ knowsW w c, x ∉ knowsW w y
        · refine ⟨c, hcL, ?_⟩
          rw [h.base c (hc c hcL).1]
          exact List.mem_filter.mpr ⟨hx, decide_eq_true hb⟩
        · obtain ⟨y, hy, hxy⟩ : ∃ y, y ∈ knowsW w c ∧ x ∈ knowsW w y := Classical.byContradiction fun z => hb fun y hy hxy => z ⟨y, hy, hxy⟩
          have hlt := ((h.trans c (hc c hcL).1).1 y hy).2.1
          have := (h.names c (hc c hcL).1).lo
          exact ih y (by omega) ((hc c hcL).2 y hy) hxy
    exact go _ c (Nat.le_refl _) hc1 hx
theorem sh_names {L : List Nm} (h : ∀ n ∈ L, NmOk n) (hl : L.length ≤ 20) : Sh 2 8263 (.tup (L.map nameA)) := by
  refine (sh_tup (d := 1) (n := 411) fun a ha => ?_).mono (by decide) (by rw [List.length_map]; omega)
  obtain ⟨n, hn, rfl⟩ := List.mem_map.mp ha
  exact (h n hn).sh
theorem sh_rec {r : Rc} (h1 : NmOk r.nm) (h2 : Tx AnyC 20 r.hand) (h3 : ∀ n ∈ r.base, NmOk n) (h4 : r.base.length ≤ 20) (h5 : DeedOk r.deed) : Sh 3 33063 (recA r) := by
  refine (sh_tup (d := 2) (n := 8263) fun a ha => ?_).mono (by decide) (by simp)
  simp only [List.mem_cons, List.not_mem_nil, or_false] at ha
  rcases ha with rfl | rfl | rfl | rfl
  · exact h1.sh.mono (by decide) (by decide)
  · exact h2.sh.mono (by decide) (by decide)
  · exact sh_names h3 h4
  · exact h5.sh.mono (by decide) (by decide)
theorem nd_knows_len (h : WOk w) (hl : w.length ≤ 20) {n : Nm} (hn : n ∈ namesW w) : (knowsW w n).length ≤ 20 := by
  have := nd_len (knowsW w n) (namesW w) (h.trans n hn).2 fun x hx => ((h.trans n hn).1 x hx).1
  simp only [namesW, List.length_map] at this
  omega
theorem sh_recOf (h : WOk w) (hl : w.length ≤ 20) {n : Nm} (hn : n ∈ namesW w) : Sh 3 33063 (recA (recOf w n)) := by
  obtain ⟨_, hr, _⟩ := recOf_in hn
  obtain ⟨d1, d2, d3⟩ := h.deeds _ hr
  have hb := h.base n hn
  refine sh_rec d2 d3 (fun x hx => ?_) ?_ d1
  · rw [hb] at hx
    exact h.names x ((h.trans n hn).1 x (List.mem_filter.mp hx).1).1
  · rw [hb]
    exact Nat.le_trans (List.length_filter_le _ _) (nd_knows_len h hl hn)
theorem sh_led (h : WOk w) (hl : w.length ≤ 20) {L : List Nm} (hL : ∀ n ∈ L, n ∈ namesW w) (hn : L.length ≤ 20) : Sh 4 661303 (ledA w L) := by
  refine (sh_tup (d := 3) (n := 33063) fun a ha => ?_).mono (by decide) (by rw [List.length_map]; omega)
  obtain ⟨n, hn, rfl⟩ := List.mem_map.mp ha
  exact sh_recOf h hl (hL n hn)
end
end Px

namespace Px
open PySem hiding Env plain
open L2 Mx StrLaws PySem.W
section
variable {G : Env} {M : AH} {E : Str → List (Str × AV) → AH → Prop}
@[simp] theorem wpS_par {D : SD} (i j : Nat) (a b : EM) : wpS (mPar i j (mCons a (mCons b mNil)) G M) D = wpR (a G M) (fun x M1 => wpR (b G M1) (fun y M2 => D.nx ((G.set i (some x)).set j (some y)) M2) D.ex) D.ex := by
  unfold mPar
  rw [wpS_st]
  simp
@[simp] theorem wpS_par3 {D : SD} (i j k : Nat) (a b c : EM) : wpS (mPar3 i j k (mCons a (mCons b (mCons c mNil))) G M) D = wpR (a G M) (fun x M1 => wpR (b G M1) (fun y M2 => wpR (c G M2) (fun z M3 => D.nx (((G.set i (some x)).set j (some y)).set k (some z)) M3) D.ex) D.ex) D.ex := by
  unfold mPar3
  rw [wpS_st]
  simp
@[simp] theorem w_zip {P : Src → AH → Prop} (n : AM) : wpR (mZip n G M) P E = wpR (n G M) (fun as M1 => wpR (gZip as M1) P E) E := by
  unfold mZip
  simp
@[simp] theorem w_enum {P : Src → AH → Prop} (n : AM) : wpR (mEnum n G M) P E = wpR (n G M) (fun as M1 => wpR (gEnum as M1) P E) E := by
  unfold mEnum
  simp
@[simp] theorem w_rev {P : Src → AH → Prop} (m : EM) : wpR (mRev m G M) P E = wpR (m G M) (fun a M1 => wpR (gRev a M1) P E) E := by
  unfold mRev
  simp
@[simp] theorem v_zipL (xs ys : List AV) : gZip [.lst xs, .lst ys] M = .ok ⟨zipA xs ys, none⟩ M := byrfl rfl
@[simp] theorem v_zipT (xs ys : List AV) : gZip [.tup xs, .tup ys] M = .ok ⟨zipA xs ys, none⟩ M := byrfl rfl
@[simp] theorem v_enumL (xs : List AV) : gEnum [.lst xs] M = .ok ⟨enumA xs, none⟩ M := byrfl rfl
@[simp] theorem v_revL (xs : List AV) : gRev (.lst xs) M = .ok ⟨xs.reverse, none⟩ M := byrfl rfl
@[simp] theorem v_revT (xs : List AV) : gRev (.tup xs) M = .ok ⟨xs.reverse, none⟩ M := byrfl rfl
end
section
variable {w : List Rc} {l : List (Str × Nm)} {h : List Nm} {tmp : List AV} {M : AH}
theorem v_seqLed (L : List Nm) : seqOf M (ledA w L) = some ⟨L.map fun n => recA (recOf w n), none⟩ := byrfl rfl
theorem v_tupLed (L : List Nm) : gTuple [.lst (L.map fun n => recA (recOf w n))] M = .ok (ledA w L) M := byrfl rfl
end
end Px

namespace Px
open PySem hiding Env plain
open L2 Mx StrLaws PySem.W
section
variable {rest : List AV} {fz : List Nat} {M : AH} {P : AV → AH → Prop} {E : Str → List (Str × AV) → AH → Prop} {G : Env} {i : Nat} {xs : List AV}
@[simp] theorem w_keys {Q : Src → AH → Prop} (m : EM) : wpR (mKeys m G M) Q E = wpR (m G M) (fun a M1 => ∃ xs, keysOf M1 a = some xs ∧ Q ⟨xs, none⟩ M1) E := by
  unfold mKeys
  rw [wpR_bind]
  congr 1
  funext a M1
  cases keysOf M1 a <;> simp
theorem f_tuple (h : Fs rest fz M) (hx : rest[i]? = some (.lst xs)) : gTuple [.ref (i + 1)] M = .ok (.tup xs) M := by
  have e : M.objs[i + 1]? = some (.lst xs) := by rw [h.get, hx]
  simp [gTuple, gTuple1, itemsOf, lstR, e]
end
theorem nle_total (a b : Nm) : (!nlt b a || !nlt a b) = true := by
  unfold nlt
  by_cases h : a.1 = b.1
  · rw [if_pos h, if_pos h.symm]
    by_cases e : a.2 = b.2
    · simp [e]
    · have e' : ¬ b.2 = a.2 := fun z => e z.symm
      rw [if_neg e, if_neg e']
      simp only [Bool.or_eq_true, Bool.not_eq_true', decide_eq_false_iff_not]
      by_cases q : b.2.cps.toList < a.2.cps.toList
      · exact .inr (List.lt_asymm q)
      · exact .inl q
  · have h' : ¬ b.1 = a.1 := fun z => h z.symm
    rw [if_neg h, if_neg h']
    simp only [Bool.or_eq_true, Bool.not_eq_true', decide_eq_false_iff_not]
    omega
theorem nle_iff (a b : Nm) : (!nlt b a) = true ↔ a.1 < b.1 ∨ (a.1 = b.1 ∧ ¬ b.2.cps.toList < a.2.cps.toList) := by
  unfold nlt
  by_cases h : b.1 = a.1
  · rw [if_pos h]
    by_cases e : b.2 = a.2
    · rw [if_pos e]
      have : ¬ a.2.cps.toList < a.2.cps.toList := List.lt_irrefl _
      simp only [Bool.not_false, true_iff]
      exact .inr ⟨h.symm, by rw [e]; exact this⟩
    · rw [if_neg e]
      simp only [Bool.not_eq_true', decide_eq_false_iff_not]
      exact ⟨fun q => .inr ⟨h.symm, q⟩, fun q => q.elim (fun z => by omega) fun z => z.2⟩
  · rw [if_neg h]
    simp only [Bool.not_eq_true', decide_eq_false_iff_not]
    exact ⟨fun q => .inl (by omega), fun q => q.elim (fun z => by omega) fun z => absurd z.1.symm h⟩
theorem nle_trans (a b c : Nm) (h1 : (!nlt b a) = true) (h2 : (!nlt c b) = true) : (!nlt c a) = true := by
  rw [nle_iff] at h1 h2 ⊢
  rcases h1 with h1 | ⟨h1, q1⟩ <;> rcases h2 with h2 | ⟨h2, q2⟩
  · exact .inl (by omega)
  · exact .inl (by omega)
  · exact .inl (by omega)
  · refine .inr ⟨by omega, ?_⟩
    rw [List.not_lt] at q1 q2 ⊢
    exact List.le_trans q1 q2
theorem sorted_allN (w : List Rc) : (allN w).Pairwise fun a b => a.1 ≤ b.1 := by
  have h := List.pairwise_mergeSort (le := fun a b => !nlt b a) (fun a b c h1 h2 => nle_trans a b c h1 h2) (fun a b => nle_total a b) (namesW w)
  refine List.Pairwise.imp (fun {a b} q => ?_) h
  rcases (nle_iff a b).mp q with z | ⟨z, _⟩ <;> omega
theorem base_cover {w : List Rc} (h : WOk w) {n m : Nm} (hn : n ∈ namesW w) (hm : m ∈ knowsW w n) : ∃ b ∈ (recOf w n).base, m = b ∨ m ∈ knowsW w b := by
  have go : ∀ (k : Nat) (m : Nm), (n.1 - m.1).toNat ≤ k → m ∈ knowsW w n → ∃ b ∈ (recOf w n).base, m = b ∨ m ∈ knowsW w b := by
    intro k
    induction k with
    | zero =>
      intro m hk hm
      have := ((h.trans n hn).1 m hm).2.1
      omega
    | succ k ih =>
      intro m hk hm
      by_cases hb : ∀ y ∈ knowsW w n, m ∉ knowsW w y
      · refine ⟨m, ?_, .inl rfl⟩
        rw [h.base n hn]
        exact List.mem_filter.mpr ⟨hm, decide_eq_true hb⟩
      · obtain ⟨y, hy, hmy⟩ : ∃ y, y ∈ knowsW w n ∧ m ∈ knowsW w y := Classical.byContradiction fun z => hb fun y hy hmy => z ⟨y, hy, hmy⟩
        obtain ⟨yn, ylt, ytr⟩ := (h.trans n hn).1 y hy
        have mlt := ((h.trans y yn).1 m hmy).2.1
        obtain ⟨b, hb1, hb2⟩ := ih y (by omega) hy
        refine ⟨b, hb1, .inr ?_⟩
        rcases hb2 with rfl | hb2
        · exact hmy
        · have hbn : b ∈ namesW w := by
            rw [h.base n hn] at hb1
            exact ((h.trans n hn).1 b (List.mem_filter.mp hb1).1).1
          exact ((h.trans b hbn).1 y hb2).2.2 m hmy
  exact go _ m (Nat.le_refl _) hm
end Px

namespace Px
open PySem hiding Env plain
open L2 Mx StrLaws
def plc : List Nm → Nm → Nat
  | [], _ => 0
  | a :: r, n => if a = n then 0 else plc r n + 1
theorem plc_app : ∀ {u v : List Nm} {n : Nm}, n ∉ u → plc (u ++ n :: v) n = u.length
  | [], v, n, _ => by simp [plc]
  | a :: u, v, n, h => by
    have h1 : a ≠ n := fun z => h (by simp [z])
    have ih := plc_app (u := u) (v := v) (n := n) fun z => h (by simp [z])
    simp [plc, h1, ih]
theorem plc_left : ∀ {u v : List Nm} {n : Nm}, n ∈ u → plc (u ++ v) n < u.length
  | a :: u, v, n, h => by
    simp only [List.cons_append, plc, List.length_cons]
    by_cases e : a = n
    · rw [if_pos e]
      omega
    · rw [if_neg e]
      have := plc_left (v := v) ((List.mem_cons.mp h).resolve_left fun z => e z.symm)
      omega
def swp : List Nm → Nat → List Nm
  | a :: b :: t, 0 => b :: a :: t
  | a :: t, k + 1 => a :: swp t k
  | xs, _ => xs
theorem swp_perm : ∀ (xs : List Nm) (k : Nat), (swp xs k).Perm xs
  | [], 0 => .refl _
  | [], k + 1 => .refl _
  | [a], 0 => .refl _
  | a :: b :: t, 0 => .swap _ _ _
  | [a], k + 1 => .cons a (swp_perm [] k)
  | a :: b :: t, k + 1 => .cons a (swp_perm (b :: t) k)
theorem swp_eq : ∀ (xs : List Nm) (k : Nat) (a b : Nm), xs[k]? = some a → xs[k + 1]? = some b → swp xs k = xs.take k ++ [b, a] ++ xs.drop (k + 2)
  | [], k, _, _, h, _ => by simp at h
  | [x], 0, _, _, _, h => by simp at h
  | x :: y :: t, 0, a, b, h1, h2 => by
    simp at h1 h2
    subst h1 h2
    simp [swp]
  | [x], k + 1, _, _, h, _ => by simp at h
  | x :: y :: t, k + 1, a, b, h1, h2 => by
    have ih := swp_eq (y :: t) k a b (by simpa using h1) (by simpa using h2)
    simp [swp, ih]
section
variable {p : Nm → Nat}
def Desc (p : Nm → Nat) (xs : List Nm) (k : Nat) : Prop := ∃ a b, xs[k]? = some a ∧ xs[k + 1]? = some b ∧ p b < p a
def Walk (p : Nm → Nat) : List Nm → List Nat → List Nm → Prop
  | A, [], C => A = C
  | A, k :: ks, C => Desc p A k ∧ Walk p (swp A k) ks C
theorem Walk.snoc : ∀ {ks : List Nat} {A C : List Nm} {k : Nat}, Walk p A ks C → Desc p C k → Walk p A (ks ++ [k]) (swp C k)
  | [], A, C, k, h, d => by
    have h : A = C := h
    subst h
    exact ⟨d, rfl⟩
  | j :: ks, A, C, k, h, d => ⟨h.1, Walk.snoc h.2 d⟩
end
def Road (w : List Rc) (R : List Nm) : Prop := R.Nodup ∧ (∀ n, n ∈ R ↔ n ∈ namesW w) ∧ ∀ u n v, R = u ++ n :: v → ∀ x ∈ knowsW w n, x ∈ u
theorem Road.lt {w : List Rc} {R : List Nm} (h : Road w R) {n x : Nm} (hn : n ∈ namesW w) (hx : x ∈ knowsW w n) : plc R x < plc R n := by
  obtain ⟨u, v, e⟩ := List.append_of_mem ((h.2.1 n).mpr hn)
  have hu : n ∉ u := fun z => by
    have := h.1
    rw [e, List.nodup_append] at this
    exact this.2.2 n z n (by simp) rfl
  have hxu := h.2.2 u n v e x hx
  rw [e, plc_app hu]
  exact plc_left hxu
theorem Road.len {w : List Rc} {R : List Nm} (hw : WOk w) (h : Road w R) : R.length = w.length := by
  have e : R.Perm (namesW w) := (List.perm_ext_iff_of_nodup h.1 hw.nd).mpr h.2.1
  rw [e.length_eq]
  simp [namesW]
section
variable {G : Env} {M : AH} {rest : List AV} {fz : List Nat} {i : Nat} {xs : List AV} {P : AV → AH → Prop} {E : Str → List (Str × AV) → AH → Prop}
theorem v_seqC (ys : List AV) : seqOf M (.tuc ys) = some ⟨ys, none⟩ := byrfl rfl
theorem v_lenC (ys : List AV) : gLen [.tuc ys] M = .ok (.int ys.length) M := byrfl rfl
theorem v_listC (ys : List AV) : gListR [.tuc ys] M = .ok (.ref M.objs.length) ⟨M.objs ++ [.lst ys], M.fz⟩ := byrfl rfl
theorem v_listRL (ys : List AV) : gListR [.lst ys] M = .ok (.ref M.objs.length) ⟨M.objs ++ [.lst ys], M.fz⟩ := byrfl rfl
theorem w_enumT {P : Src → AH → Prop} (n : AM) : wpR (mEnumT n G M) P E = wpR (n G M) (fun as M1 => wpR (gEnumT as M1) P E) E := by
  unfold mEnumT
  simp
theorem v_enumC (ys : List AV) : gEnumT [.tuc ys] M = .ok ⟨enumA ys, none⟩ M := byrfl rfl
theorem v_enumT (ys : List AV) : gEnumT [.tup ys] M = .ok ⟨enumA ys, none⟩ M := byrfl rfl
theorem w_ixC {ys : List AV} {k : Int} : wpR (gIx (.tuc ys) (.int k) M) P E = ∃ v, atI ys k = some v ∧ P v M := by
  show wpR (match atI ys k with | some v => Res.ok v M | none => .stuck) P E = _
  cases atI ys k <;> simp
theorem Sh.tuc {d n : Nat} {ys : List AV} (h : Sh d n (.tup ys)) : Sh d n (.tuc ys) := ⟨by
  have := h.pl
  cases d with
  | zero => simp [plain] at this
  | succ d => simpa [plain] using this, h.ok, h.le⟩
end
end Px
namespace Px
open PySem hiding Env plain
open L2 Mx StrLaws
end Px

namespace Px
open PySem hiding Env plain
open L2 Mx StrLaws
local macro_rules | `(tactic| simp! [$ls,*]) => `(tactic| try simp -implicitDefEqProofs only [w_enumT, v_enumC, v_enumT, v_seqC, v_lenC, v_listC, v_listRL, w_keys, List.map_cons, List.map_nil, List.cons_append, List.nil_append, List.replicate, List.set_cons_succ, List.set_cons_zero, wipeG, wpS_then, wpS_set, wpS_if, wpS_mret, wpS_retN, wpS_mnext, wpS_mbrk, wpS_mcnt, wpS_exp, wpS_asg, wpS_for, w_c, w_bin, w_un, w_ifE, w_andV, w_orV, w_notV, w_call, w_chain, w_meth, w_meth0, w_sl, w_noPart, w_part, w_nil, w_cons, w_bl, w_tru, w_and, w_or, w_not, w_lcV, w_lcR, w_lc, w_seq, w_rng1, w_rng2, w_var0, w_var1, w_var2, w_var3, w_var4, w_var5, w_var6, w_var7, w_var8, w_var9, w_var10, w_var11, w_var12, w_var13, w_var14, w_var15, w_var16, w_var17, w_var18, w_var19, w_var20, w_dictT, w_dictK, w_gTp, wpS_par, wpS_par3, w_zip, w_enum, w_rev, v_zipL, v_zipT, v_enumL, v_revL, v_revT, w_gsCons, w_gsNil, w_callK, wpR_ok, wpR_sized, v_nm, v_addI, v_addS, v_addT, v_addL, v_sub, v_neg, w_mul, w_div, w_mod, w_pow, v_ordI, v_eqI, v_neI, v_eqS, v_neS, v_lenS, v_lenL, v_lenF, v_lenT, v_truB, v_seqS, v_seqT, v_seqL, v_seqF, v_listT, v_listL, v_tupleL, v_tupleT, v_tupD, v_lstD, v_lstR, v_slT, v_slL, v_slF, w_slS, defD_rt, defD_nx, defD_ex, defD_bk, defD_ct, AV.bl.injEq, AV.int.injEq, Option.some.injEq, exists_eq_left', tyS, if_true, if_false, Bool.false_eq_true, true_and, and_true, $ls,*])
noncomputable def exch_b : SM := mRet (mBin gAdd (mBin gAdd (mSl gSl (mVar 0) (mNoPart) (mPart (mVar 1))) (mTup (mCons (mBin gIx (mVar 0) (mBin gAdd (mVar 1) (mC (.int 1)))) (mCons (mBin gIx (mVar 0) (mVar 1)) (mNil))))) (mSl gSl (mVar 0) (mPart (mBin gAdd (mVar 1) (mC (.int 2)))) (mNoPart)))
noncomputable def m_exch : List AV → AH → Res AV := gc (mDef 2 0 exch_b)
def RowA (a : AV) (xs : List AV) : Prop := a = .tup xs ∨ a = .tuc xs
section
variable {M : AH} {a c : AV} {xs : List AV} {k : Nat} {P : AV → AH → Prop} {E : Str → List (Str × AV) → AH → Prop}
theorem cutA_take (ys : List AV) (k : Nat) : cutA ys none (some (k : Int)) = ys.take k := by
  unfold cutA
  rw [show HT.sIx ys.length 0 none = 0 from rfl, HT.sIx_nat, List.drop_zero, Nat.sub_zero]
  by_cases h : k ≤ ys.length
  · rw [Nat.min_eq_left h]
  · rw [Nat.min_eq_right (by omega), List.take_length, List.take_of_length_le (by omega)]
theorem cutA_drop (ys : List AV) (k : Nat) : cutA ys (some (k : Int)) none = ys.drop k := by
  unfold cutA
  rw [show HT.sIx ys.length ys.length none = ys.length from rfl, HT.sIx_nat]
  by_cases h : k ≤ ys.length
  · rw [Nat.min_eq_left h]
    exact List.take_of_length_le (by rw [List.length_drop]; omega)
  · rw [Nat.min_eq_right (by omega), Nat.sub_self, List.take_zero, List.drop_of_length_le (by omega)]
theorem r_sl1 (ha : RowA a xs) (hk : k < xs.length) : gSl a none (some (k : Int)) M = .ok (.tup (xs.take k)) M := by
  rcases ha with rfl | rfl
  · rw [v_slT, cutA_take]
  · show Res.ok (if HT.sIx xs.length 0 none = 0 ∧ HT.sIx xs.length xs.length (some (k : Int)) = xs.length then AV.tuc xs else .tup (cutA xs none (some (k : Int)))) M = _
    rw [if_neg, cutA_take]
    rw [HT.sIx_nat]
    omega
theorem r_sl2 (ha : RowA a xs) : gSl a (some ((k : Int) + 2)) none M = .ok (if xs = [] then a else .tup (xs.drop (k + 2))) M := by
  rw [show ((k : Int) + 2) = ((k + 2 : Nat) : Int) by omega]
  rcases ha with rfl | rfl
  · rw [v_slT, cutA_drop]
    by_cases h : xs = []
    · subst h
      simp
    · rw [if_neg h]
  · show Res.ok (if HT.sIx xs.length 0 (some ((k + 2 : Nat) : Int)) = 0 ∧ HT.sIx xs.length xs.length none = xs.length then AV.tuc xs else .tup (cutA xs (some ((k + 2 : Nat) : Int)) none)) M = _
    rw [cutA_drop, HT.sIx_nat]
    by_cases h : xs = []
    · subst h
      simp
      rfl
    · have : xs.length ≠ 0 := fun z => h (List.length_eq_zero_iff.mp z)
      rw [if_neg (by omega), if_neg h]
theorem r_ix (ha : RowA a xs) {i : Int} : wpR (gIx a (.int i) M) P E = ∃ v, atI xs i = some v ∧ P v M := by
  rcases ha with rfl | rfl
  · exact w_ixT
  · exact w_ixC
theorem r_len (ha : RowA a xs) : gLen [a] M = .ok (.int xs.length) M := by
  rcases ha with rfl | rfl <;> rfl
theorem at_nat {ys : List AV} {j : Nat} (h : j < ys.length) : atI ys (j : Int) = some (ys[j]) := by
  rw [at_nn (by omega) (by omega)]
  simp
theorem q_exch {R : List Nm} (ha : RowA a (R.map nameA)) (hk : k + 1 < R.length) (hl : R.length ≤ 1000) : m_exch [a, .int (k : Nat)] M = .ok (.tup ((swp R k).map nameA)) M := by
  refine pure_eq rfl ?_
  unfold exch_b
  have e1 : gSl a none (some (k : Int)) M = .ok (.tup ((R.map nameA).take k)) M := r_sl1 ha (by rw [List.length_map]; omega)
  have e2 : gSl a (some ((k : Int) + 2)) none M = .ok (.tup ((R.map nameA).drop (k + 2))) M := by
    rw [r_sl2 ha, if_neg]
    intro z
    have h0 : (R.map nameA).length = 0 := by rw [z]; rfl
    rw [List.length_map] at h0
    omega
  have i1 : atI (R.map nameA) ((k : Int) + 1) = some (nameA R[k + 1]) := by
    rw [show ((k : Int) + 1) = ((k + 1 : Nat) : Int) by omega, at_nat (by rw [List.length_map]; omega)]
    simp
  have i2 : atI (R.map nameA) (k : Int) = some (nameA R[k]) := by
    rw [at_nat (by rw [List.length_map]; omega)]
    simp
  simp! [e1, e2, r_ix ha, i1, i2]
  refine ⟨by simp, by simp; omega, by simp; omega, ?_⟩
  rw [swp_eq R k R[k] R[k + 1] (List.getElem?_eq_getElem (by omega)) (List.getElem?_eq_getElem (by omega))]
  simp
theorem enum_get {ys : List AV} {j : Nat} {x : AV} (h : (enumA ys)[j]? = some x) : ∃ y, ys[j]? = some y ∧ x = .tup [.int (j : Nat), y] := by
  unfold enumA at h
  rw [List.getElem?_mapIdx] at h
  cases e : ys[j]? with
  | none => rw [e] at h; cases h
  | some y => rw [e] at h; exact ⟨y, rfl, (Option.some.inj h).symm⟩
end
end Px



namespace Px
open PySem hiding Env plain
open L2 Mx StrLaws
noncomputable def num_b : SM := mRet (mAndV (mUn (gIsi "int") (mVar 0)) (mNotV (mUn (gIsi "bool") (mVar 0))))
noncomputable def m_num : List AV → AH → Res AV := gc (mDef 1 0 num_b)
def isNumA : AV → Bool
  | .int _ => true
  | _ => false
section
variable {M : AH}
theorem q_num {d : Nat} {a : AV} (h : plain d a = true) : m_num [a] M = .ok (.bl (isNumA a)) M := by
  refine pure_eq rfl ?_
  unfold num_b
  cases a <;> first | (simp -implicitDefEqProofs [gIsi, tyN, isiB, isNumA]; done) | (cases d <;> simp [plain] at h)
end
def rowOf : AV → Option (List AV)
  | .tup xs => some xs
  | .tuc xs => some xs
  | _ => none
theorem RowA.of {c : AV} {xs : List AV} (h : RowA c xs) : rowOf c = some xs := by rcases h with rfl | rfl <;> rfl
theorem w_tp4 {G : Env} {M : AH} {r : Rc} {u : TMs} {P : Env → AH → Prop} {E : Str → List (Str × AV) → AH → Prop} : wpR (gTp 4 u (recA r) G M) P E = wpR (u [nameA r.nm, .str r.hand, .tup (r.base.map nameA), r.deed] G M) P E := by
  unfold recA
  rw [w_gTp]
  simp
end Px

namespace Px
open PySem hiding Env plain
open L2 Mx StrLaws
section
variable {M : AH} {a b c : AV} {xs ys : List AV} {P : AV → AH → Prop} {E : Str → List (Str × AV) → AH → Prop} {n m : Nat} {lo hi : Option Int}
def GR (I : AV → Prop) (n : Nat) (c : AV) : Prop := ∃ xs, RowA c xs ∧ (∀ a ∈ xs, I a) ∧ xs.length ≤ n
variable {I : AV → Prop}
theorem GR.one (h : I a) : GR I 1 (.tup [a]) := ⟨[a], .inl rfl, fun x hx => by rw [List.mem_singleton.mp hx]; exact h, Nat.le_refl _⟩
theorem GR.mono (h : GR I n a) (hn : n ≤ m) : GR I m a := by
  obtain ⟨xs, h1, h2, h3⟩ := h
  exact ⟨xs, h1, h2, by omega⟩
end
end Px

namespace Px
open PySem hiding Env plain
open L2 Mx StrLaws
local macro_rules | `(tactic| simp! [$ls,*]) => `(tactic| try simp -implicitDefEqProofs only [w_enumT, v_enumC, v_enumT, v_seqC, v_lenC, v_listC, v_listRL, w_keys, List.map_cons, List.map_nil, List.cons_append, List.nil_append, List.replicate, List.set_cons_succ, List.set_cons_zero, wipeG, wpS_then, wpS_set, wpS_if, wpS_mret, wpS_retN, wpS_mnext, wpS_mbrk, wpS_mcnt, wpS_exp, wpS_asg, wpS_for, w_c, w_bin, w_un, w_ifE, w_andV, w_orV, w_notV, w_call, w_chain, w_meth, w_meth0, w_sl, w_noPart, w_part, w_nil, w_cons, w_bl, w_tru, w_and, w_or, w_not, w_lcV, w_lcR, w_lc, w_seq, w_rng1, w_rng2, w_var0, w_var1, w_var2, w_var3, w_var4, w_var5, w_var6, w_var7, w_var8, w_var9, w_var10, w_var11, w_var12, w_var13, w_var14, w_var15, w_var16, w_var17, w_var18, w_var19, w_var20, w_dictT, w_dictK, w_gTp, wpS_par, wpS_par3, w_zip, w_enum, w_rev, v_zipL, v_zipT, v_enumL, v_revL, v_revT, w_gsCons, w_gsNil, w_callK, wpR_ok, wpR_sized, v_nm, v_addI, v_addS, v_addT, v_addL, v_sub, v_neg, w_mul, w_div, w_mod, w_pow, v_ordI, v_eqI, v_neI, v_eqS, v_neS, v_lenS, v_lenL, v_lenF, v_lenT, v_truB, v_seqS, v_seqT, v_seqL, v_seqF, v_listT, v_listL, v_tupleL, v_tupleT, v_tupD, v_lstD, v_lstR, v_slT, v_slL, v_slF, w_slS, defD_rt, defD_nx, defD_ex, defD_bk, defD_ct, AV.bl.injEq, AV.int.injEq, Option.some.injEq, exists_eq_left', tyS, if_true, if_false, Bool.false_eq_true, true_and, and_true, $ls,*])
section
variable {G : Env} {M : AH} {D : SD} {P : AV → AH → Prop} {E : Str → List (Str × AV) → AH → Prop}
@[simp] theorem w_raise (c : Str) (fs : List Str) (n : AM) : wpS (mRaise c fs n G M) D = wpR (n G M) (fun as M1 => (as.length = fs.length ∧ fs.length ≤ 10) ∧ D.ex c (fs.zip as).reverse M1) D.ex := by
  unfold mRaise
  rw [wpS_st]
  congr 1
  funext as M1
  by_cases h : as.length = fs.length ∧ fs.length ≤ 10
  · rw [if_pos h]
    simp [h]
  · rw [if_neg h]
    simp [h]
theorem xi_ok {tab : List (Str × Bool)} {c : Str} {fs : List (Str × AV)} {b : Bool} (h : tab.lookup c = some b) : mXi tab c fs G M = .ok (.bl b) M := by
  unfold mXi
  rw [h]
theorem xf_ok {cn f : Str} {fs : List (Str × AV)} {a : AV} (h : fs.lookup f = some a) : mXf cn f cn fs G M = .ok a M := by
  unfold mXf
  rw [if_pos rfl, h]
theorem wp_gcE {m : List AV → AH → Res AV} {as : List AV} {rest : List AV} {fz : List Nat} (hM : Fs rest fz M)
    (h : wpR (m as M) (fun a M' => plain 60 a = true ∧ (∃ tmp, Fs (rest ++ tmp) fz M') ∧ ∀ M'', Fs rest fz M'' → P a M'') fun c fs M' => (fs.all fun p => plain 60 p.2) = true ∧ (∃ tmp, Fs (rest ++ tmp) fz M') ∧ ∀ M'', Fs rest fz M'' → E c fs M'') : wpR (gc m as M) P E := by
  unfold gc
  have clean : ∀ M' tmp, Fs (rest ++ tmp) fz M' → Clean M.objs.length M M' ∧ Fs rest fz (M'.cut M.objs.length) := fun M' tmp hF => by
    obtain ⟨cs', a', l', n', rfl⟩ := hF
    obtain ⟨cs, a0, l, n, rfl⟩ := hM
    refine ⟨⟨rfl, by simp [st], fun k c hk hq => ?_⟩, cs', a', l', n', ?_⟩
    · cases k with
      | zero =>
        have e : c = fd cs' a' l' n' := by
          have hq : some (fd cs' a' l' n') = some c := hq
          exact (Option.some.inj hq).symm
        exact .inr (e ▸ cl_fd _ _ _ _ _)
      | succ k =>
        have hq : (rest ++ tmp)[k]? = some c := hq
        have hk : k + 1 < rest.length + 1 := hk
        rw [List.getElem?_append_left (by omega)] at hq
        exact .inl hq
    · show AH.mk ((fd cs' a' l' n' :: (rest ++ tmp)).take (rest.length + 1)) fz = _
      rw [List.take_succ_cons, List.take_left]
      rfl
  cases q : m as M with
  | ok a M' =>
    rw [q] at h
    obtain ⟨hp, ⟨tmp, hF⟩, hP⟩ := h
    obtain ⟨h1, h2⟩ := clean M' tmp hF
    have hfin : fin M.objs.length M' a = a := by cases a <;> first | rfl | (simp [plain] at hp)
    simp only [hfin, h1, plain_cl _ _ _ hp, and_self, if_true, wpR_ok]
    exact hP _ h2
  | exc c fs M' =>
    rw [q] at h
    obtain ⟨hp, ⟨tmp, hF⟩, hP⟩ := h
    obtain ⟨h1, h2⟩ := clean M' tmp hF
    have hc : (fs.all fun p => cl M.objs.length p.2) = true := List.all_eq_true.mpr fun p hpm => plain_cl _ _ _ (List.all_eq_true.mp hp p hpm)
    simp only [h1, hc, and_self, if_true, wpR_exc]
    exact hP _ h2
  | stuck => rw [q] at h; exact h.elim
end
noncomputable def chof_b : SM := mThen (mFor (mSeq (mVar 0)) (gNm 2) (mIf (mBl (mBin gEq (mBin gIx (mVar 2) (mC (.int 0))) (mVar 1))) (mRet (mVar 2)) (mNext))) (mRaise "NoName" ["name"] (mCons (mVar 1) (mNil)))
noncomputable def m_chof : List AV → AH → Res AV := gc (mDef 2 1 chof_b)
noncomputable def spr_b : SM := mThen (mSet 2 (mDictT)) (mThen (mFor (mSeq (mVar 1)) (gNm 3) (mAsg (gPut (mVar 2) (mVar 3)) (mC (.bl true)))) (mThen (mFor (mRev (mVar 0)) (gTp 4 (gsCons (gNm 3) (gsCons (gNm 4) (gsCons (gNm 5) (gsCons (gNm 6) (gsNil)))))) (mIf (mBl (mBin (gIn false) (mVar 3) (mVar 2))) (mFor (mSeq (mVar 5)) (gNm 7) (mAsg (gPut (mVar 2) (mVar 7)) (mC (.bl true)))) (mNext))) (mRet (mVar 2))))
noncomputable def m_spr : List AV → AH → Res AV := gc (mDef 2 6 spr_b)
noncomputable def kno_b : SM := mThen (mSet 3 (mBin gIx (mCall m_chof (mCons (mVar 0) (mCons (mVar 1) (mNil)))) (mC (.int 2)))) (mThen (mExp (mCall m_chof (mCons (mVar 0) (mCons (mVar 2) (mNil))))) (mRet (mBin (gIn false) (mVar 2) (mCall m_spr (mCons (mVar 0) (mCons (mVar 3) (mNil)))))))
noncomputable def m_kno : List AV → AH → Res AV := gc (mDef 3 1 kno_b)
noncomputable def nee_b : SM := mIf (mNot (mTru (mVar 0))) (mRaise "NoPaper" ["word", "at"] (mCons (mVar 1) (mCons (mVar 2) (mNil)))) (mNext)
noncomputable def m_nee : List AV → AH → Res AV := gc (mDef 3 0 nee_b)
section
variable {w : List Rc} {rest : List AV} {M : AH} {P : AV → AH → Prop} {E : Str → List (Str × AV) → AH → Prop} {L : List Nm}
theorem v_eqN (a b : Nm) {M : AH} : gEq (nameA a) (nameA b) M = .ok (.bl (decide (a = b))) M := by
  have e : top M (nameA a) = nameA a := rfl
  have e2 : top M (nameA b) = nameA b := rfl
  simp only [gEq, e, e2, plain_name, Bool.and_self, if_true, aeq_name]
theorem w_rec0 {r : Rc} : wpR (gIx (recA r) (.int 0) M) P E = P (nameA r.nm) M := by
  unfold recA
  rw [w_ixT, show atI [nameA r.nm, AV.str r.hand, .tup (r.base.map nameA), r.deed] 0 = some (nameA r.nm) from rfl]
  simp
theorem w_rec2 {r : Rc} : wpR (gIx (recA r) (.int 2) M) P E = P (.tup (r.base.map nameA)) M := by
  unfold recA
  rw [w_ixT, show atI [nameA r.nm, AV.str r.hand, .tup (r.base.map nameA), r.deed] 2 = some (.tup (r.base.map nameA)) from rfl]
  simp
theorem plain_recOf (hw : WOk w) {n : Nm} (hn : n ∈ namesW w) : plain 60 (recA (recOf w n)) = true := plain_rec (hw.deeds _ (recOf_in hn).2.1).1
theorem d_chof {n : Nm} (hM : Fs rest [] M) (hw : WOk w) (hL : ∀ x ∈ L, x ∈ namesW w)
    (q1 : n ∈ L → ∀ M', Fs rest [] M' → P (recA (recOf w n)) M') (q2 : n ∉ L → ∀ M', Fs rest [] M' → E "NoName" [("name", nameA n)] M') : wpR (m_chof [ledA w L, nameA n] M) P E := by
  refine wp_gcE hM ?_
  refine wp_def rfl ?_
  unfold chof_b
  refine wp_seq (fun G M => n ∉ L ∧ (∃ g2, G = [some (ledA w L), some (nameA n), g2]) ∧ Fs rest [] M) ?_ ?_
  · rw [wpS_for]
    simp! [v_seqLed]
    refine wp_loop (fun j G M => n ∉ L.take j ∧ (∃ g2, G = [some (ledA w L), some (nameA n), g2]) ∧ Fs rest [] M) _ 0 _ _ ⟨by simp, ⟨_, rfl⟩, hM⟩ ?_ ?_
    · rintro j x G M hj ⟨hno, ⟨g2, rfl⟩, hF⟩
      rw [Nat.zero_add] at *
      rw [List.getElem?_map] at hj
      cases e : L[j]? with
      | none => rw [e] at hj; cases hj
      | some y =>
        rw [e] at hj
        have ex : x = recA (recOf w y) := (Option.some.inj hj).symm
        subst ex
        have hy : y ∈ L := List.mem_of_getElem? e
        simp! [w_rec0, recOf_nm, v_eqN]
        split
        · rename_i h
          have h := of_decide_eq_true h
          subst h
          simp! []
          exact ⟨plain_recOf hw (hL _ hy), hF.ofT, q1 hy⟩
        · rename_i h
          have h : ¬ y = n := fun z => h (decide_eq_true z)
          simp! []
          refine ⟨?_, ⟨_, rfl⟩, hF⟩
          rw [List.take_add_one, e, List.mem_append]
          rintro (z | z)
          · exact hno z
          · simp at z
            exact h z.symm
    · rintro G M ⟨hno, hG, hF⟩
      rw [Nat.zero_add, List.length_map, List.take_length] at hno
      exact ⟨hno, hG, hF⟩
  rintro _ M ⟨hno, ⟨g2, rfl⟩, hM⟩
  rw [w_raise]
  simp! []
  refine ⟨by simp, ?_⟩
  have e0 : ((["name"] : List Str).zip [nameA n]).reverse = [(("name" : Str), nameA n)] := rfl
  rw [e0]
  exact ⟨by simp [plain_name], hM.ofT, q2 hno⟩
noncomputable def sstep (w : List Rc) (s : List Nm) (n : Nm) : List Nm := if n ∈ s then insAll s (recOf w n).base else s
theorem sstep_sub {s : List Nm} {n x : Nm} (h : x ∈ s) : x ∈ sstep w s n := by
  unfold sstep
  split
  · exact mem_insAll.mpr (.inl h)
  · exact h
theorem base_sub (hw : WOk w) {n x : Nm} (hn : n ∈ namesW w) (hx : x ∈ (recOf w n).base) : x ∈ knowsW w n := by
  rw [hw.base n hn] at hx
  exact (List.mem_filter.mp hx).1
theorem spread_inv (hw : WOk w) {ns : List Nm} : ∀ (D : List Nm) (s0 : List Nm), (∀ n ∈ D, n ∈ namesW w) → D.Pairwise (fun a b => b.1 ≤ a.1) →
    ∃ s, D.foldl (sstep w) s0 = s ∧ (∀ x ∈ s0, x ∈ s) ∧ (∀ x ∈ s, x ∈ s0 ∨ ∃ n ∈ s0, n ∈ namesW w ∧ x ∈ knowsW w n) ∧ ∀ n ∈ D, n ∈ s → ∀ b ∈ (recOf w n).base, b ∈ s
  | [], s0, _, _ => ⟨s0, rfl, fun _ h => h, fun _ h => .inl h, by simp⟩
  | d :: D, s0, hD, hp => by
    rw [List.pairwise_cons] at hp
    have hd := hD d (by simp)
    obtain ⟨s, e, h1, h2, h3⟩ := spread_inv hw (ns := ns) D (sstep w s0 d) (fun n hn => hD n (by simp [hn])) hp.2
    have hsub : ∀ x ∈ sstep w s0 d, x ∈ s0 ∨ ∃ n ∈ s0, n ∈ namesW w ∧ x ∈ knowsW w n := fun x hx => by
      unfold sstep at hx
      split at hx
      · rename_i hds
        rcases mem_insAll.mp hx with z | z
        · exact .inl z
        · exact .inr ⟨d, hds, hd, base_sub hw hd z⟩
      · exact .inl hx
    refine ⟨s, e, fun x hx => h1 x (sstep_sub hx), fun x hx => ?_, fun n hn hns b hb => ?_⟩
    · rcases h2 x hx with z | ⟨n, hn, hnw, hk⟩
      · exact hsub x z
      · rcases hsub n hn with z | ⟨m, hm, hmw, hnk⟩
        · exact .inr ⟨n, z, hnw, hk⟩
        · exact .inr ⟨m, hm, hmw, ((hw.trans m hmw).1 n hnk).2.2 x hk⟩
    · rcases List.mem_cons.mp hn with rfl | hn
      · by_cases hds : n ∈ s0
        · refine h1 b ?_
          unfold sstep
          rw [if_pos hds]
          exact mem_insAll.mpr (.inr hb)
        · -- n came later: from a change of no greater count
          exfalso
          have key : ∀ (D : List Nm) (s0 : List Nm), (∀ m ∈ D, m ∈ namesW w) → (∀ m ∈ D, m.1 ≤ n.1) → n ∉ s0 → n ∉ D.foldl (sstep w) s0 := by
            intro D
            induction D with
            | nil => exact fun s0 _ _ h => h
            | cons d D ih =>
              intro s0 g1 g2 g3
              refine ih _ (fun m hm => g1 m (by simp [hm])) (fun m hm => g2 m (by simp [hm])) fun z => ?_
              unfold sstep at z
              split at z
              · rcases mem_insAll.mp z with y | y
                · exact g3 y
                · have hdw := g1 d (by simp)
                  have := ((hw.trans d hdw).1 n (base_sub hw hdw y)).2.1
                  have := g2 d (by simp)
                  omega
              · exact g3 z
          have es : sstep w s0 n = s0 := if_neg hds
          rw [es] at e
          exact key D s0 (fun m hm => hD m (by simp [hm])) hp.1 hds (e ▸ hns)
      · exact h3 n hn hns b hb
theorem spread_all (hw : WOk w) {ns L : List Nm} (hc : Closed w L) (hs : L.Pairwise fun a b => a.1 ≤ b.1) (hns : ∀ n ∈ ns, n ∈ L) (s0 : List Nm) (h0 : ∀ x, x ∈ s0 ↔ x ∈ ns) (x : Nm) :
    x ∈ L.reverse.foldl (sstep w) s0 ↔ x ∈ ns ∨ ∃ n ∈ ns, x ∈ knowsW w n := by
  obtain ⟨s, e, h1, h2, h3⟩ := spread_inv hw (ns := ns) L.reverse s0 (fun n hn => (hc n (List.mem_reverse.mp hn)).1) (List.pairwise_reverse.mpr hs)
  rw [e]
  constructor
  · intro hx
    rcases h2 x hx with z | ⟨n, hn, _, hk⟩
    · exact .inl ((h0 x).mp z)
    · exact .inr ⟨n, (h0 n).mp hn, hk⟩
  · rintro (z | ⟨n, hn, hk⟩)
    · exact h1 x ((h0 x).mpr z)
    · have go : ∀ (k : Nat) (n : Nm), n.1.toNat ≤ k → n ∈ L → n ∈ s → ∀ x ∈ knowsW w n, x ∈ s := by
        intro k
        induction k with
        | zero =>
          intro n hk hn hns x hx
          have := (hw.names n (hc n hn).1).lo
          omega
        | succ k ih =>
          intro n hk hn hns x hx
          obtain ⟨b, hb, hxb⟩ := base_cover hw (hc n hn).1 hx
          have hbs := h3 n (List.mem_reverse.mpr hn) hns b hb
          have hbk := base_sub hw (hc n hn).1 hb
          have hbl := ((hw.trans n (hc n hn).1).1 b hbk).2.1
          have hbL := (hc n hn).2 b hbk
          rcases hxb with rfl | hxb
          · exact hbs
          · have := (hw.names b (hc b hbL).1).lo
            exact ih b (by omega) hbL hbs x hxb
      exact go _ n (Nat.le_refl _) (hns n hn) (h1 n ((h0 n).mpr hn)) x hk
theorem d_spr {ns : List Nm} (hM : Fs rest [] M) (hw : WOk w) (hl : w.length ≤ 20) (hc : Closed w L) (hs : L.Pairwise fun a b => a.1 ≤ b.1) (hns : ∀ n ∈ ns, n ∈ L)
    (q : ∀ s M', (∀ x, x ∈ s ↔ x ∈ ns ∨ ∃ n ∈ ns, x ∈ knowsW w n) → Fs (rest ++ [.dT (trueK s)]) [] M' → P (.ref (rest.length + 1)) M') : wpR (m_spr [ledA w L, .tup (ns.map nameA)] M) P E := by
  have hnw : ∀ n ∈ ns, n ∈ namesW w := fun n hn => (hc n (hns n hn)).1
  have key : ∀ {P' : AV → AH → Prop}, (∀ s M', (∀ x, x ∈ s ↔ x ∈ ns ∨ ∃ n ∈ ns, x ∈ knowsW w n) → Fs (rest ++ [.dT (trueK s)]) [] M' → P' (.ref (rest.length + 1)) M') → wpR (mDef 2 6 spr_b [ledA w L, .tup (ns.map nameA)] M) P' fun _ _ _ => False := by
    intro P' q
    refine wp_def rfl ?_
    unfold spr_b
    have g0 : ∀ x : AV, (rest ++ [x])[rest.length]? = some x := fun x => by simp
    have gs : ∀ x y : AV, (rest ++ [x]).set rest.length y = rest ++ [y] := fun x y => by simp
    refine wp_seq (fun G M => G = [some (ledA w L), some (.tup (ns.map nameA)), some (.ref (rest.length + 1)), none, none, none, none, none] ∧ Fs (rest ++ [.dT (trueK [])]) [] M) ?_ ?_
    · simp! []
      rw [hM.len]
      exact ⟨rfl, hM.push _⟩
    rintro _ M ⟨rfl, hM⟩
    refine wp_seq (fun G M => (∃ g3, G = [some (ledA w L), some (.tup (ns.map nameA)), some (.ref (rest.length + 1)), g3, none, none, none, none]) ∧ Fs (rest ++ [.dT (trueK (insAll [] ns))]) [] M) ?_ ?_
    · rw [wpS_for]
      simp! []
      refine d_wanted (w := w) (n := (0, "")) (s := []) rfl hM (g0 _) (by simp) (by simp) hnw hl 3 (by simp) (fun v M => rfl) fun M' h' v => ?_
      rw [gs] at h'
      exact ⟨⟨v, rfl⟩, h'⟩
    rintro _ M ⟨⟨g3, rfl⟩, hM⟩
    have hi0 : ∀ x, x ∈ insAll [] ns ↔ x ∈ ns := fun x => by rw [mem_insAll]; simp
    refine wp_seq (fun G M => (∃ g3 g4 g5 g6 g7, G = [some (ledA w L), some (.tup (ns.map nameA)), some (.ref (rest.length + 1)), g3, g4, g5, g6, g7]) ∧ Fs (rest ++ [.dT (trueK (L.reverse.foldl (sstep w) (insAll [] ns)))]) [] M) ?_ ?_
    · rw [wpS_for]
      simp! []
      have er : gRev (ledA w L) M = .ok ⟨(L.reverse.map fun n => recA (recOf w n)), none⟩ M := by
        rw [List.map_reverse]
        rfl
      rw [er]
      simp! []
      refine wp_fold (S := ⟨_, none⟩) (fun n => recA (recOf w n)) (sstep w) (fun s G M => (∃ g3 g4 g5 g6 g7, G = [some (ledA w L), some (.tup (ns.map nameA)), some (.ref (rest.length + 1)), g3, g4, g5, g6, g7]) ∧ s.Nodup ∧ (∀ x ∈ s, x ∈ namesW w) ∧ Fs (rest ++ [.dT (trueK s)]) [] M) (fun _ _ _ _ => trivial) _ _ _ _ ⟨⟨_, _, _, _, _, rfl⟩, nd_insAll (by simp), fun x hx => hnw x ((hi0 x).mp hx), hM⟩ ?_ ?_
      · rintro s n G M hn ⟨⟨g3, g4, g5, g6, g7, rfl⟩, hnd, hsub, hF⟩
        have hnL : n ∈ L := List.mem_reverse.mp hn
        have hnn := (hc n hnL).1
        have hbw : ∀ b ∈ (recOf w n).base, b ∈ namesW w := fun b hb => ((hw.trans n hnn).1 b (base_sub hw hnn hb)).1
        have hin : gIn false (nameA n) (.ref (rest.length + 1)) M = .ok (.bl (if false then !(getK (trueK s) (nameK n)).isSome else (getK (trueK s) (nameK n)).isSome)) M := f_inT (i := rest.length) hF (g0 _) (keyT_name n)
        rw [if_neg (by decide), getK_isSome, List.map_id] at hin
        simp! [w_tp4, recOf_nm, hin]
        unfold sstep
        split
        · rename_i hs
          have hs := of_decide_eq_true hs
          rw [if_pos hs]
          refine d_wanted (w := w) (n := (0, "")) (s := s) rfl hF (g0 _) hnd hsub hbw hl 7 (by simp) (fun v M => rfl) fun M' h' v => ?_
          rw [gs] at h'
          refine ⟨⟨_, _, _, _, _, rfl⟩, nd_insAll hnd, fun x hx => ?_, h'⟩
          rcases mem_insAll.mp hx with z | z
          · exact hsub x z
          · exact hbw x z
        · rename_i hs
          have hs : n ∉ s := fun z => hs (decide_eq_true z)
          rw [if_neg hs]
          simp! []
          exact ⟨⟨_, _, _, _, _, rfl⟩, hnd, hsub, hF⟩
      · rintro G M ⟨hG, _, _, hF⟩
        exact ⟨hG, hF⟩
    rintro _ M ⟨⟨g3, g4, g5, g6, g7, rfl⟩, hM⟩
    simp! []
    exact q _ _ (spread_all hw hc hs hns _ hi0) hM
  have k2 := key (P' := fun a M' => a = .ref (rest.length + 1) ∧ ∃ s, (∀ x, x ∈ s ↔ x ∈ ns ∨ ∃ n ∈ ns, x ∈ knowsW w n) ∧ Fs (rest ++ [.dT (trueK s)]) [] M') fun s M' h1 h2 => ⟨rfl, s, h1, h2⟩
  unfold m_spr gc
  cases e : mDef 2 6 spr_b [ledA w L, .tup (ns.map nameA)] M with
  | stuck => rw [e] at k2; exact k2.elim
  | exc c fs M' => rw [e] at k2; exact k2.elim
  | ok a M' =>
    rw [e] at k2
    obtain ⟨rfl, s, h1, h2⟩ := k2
    have hml := hM.len
    have hfin : fin M.objs.length M' (.ref (rest.length + 1)) = .ref (rest.length + 1) := by
      show (if rest.length + 1 < M.objs.length then AV.ref (rest.length + 1) else (match M'.objs[rest.length + 1]? with
        | some (.lst xs) => .lst xs
        | _ => .ref (rest.length + 1))) = _
      rw [if_neg (by omega)]
      obtain ⟨cs, a, l, n, rfl⟩ := h2
      have e2 : (st cs a l n (rest ++ [.dT (trueK s)]) []).objs[rest.length + 1]? = some (.dT (trueK s)) := by
        show (fd cs a l n :: (rest ++ [AV.dT (trueK s)]))[rest.length + 1]? = _
        simp
      rw [e2]
    have hncl : cl M.objs.length (.ref (rest.length + 1)) = false := by
      show decide (rest.length + 1 < M.objs.length) = false
      exact decide_eq_false (by omega)
    simp only
    rw [hfin, if_neg (fun z => by rw [hncl] at z; exact Bool.false_ne_true z.2), wpR_ok]
    exact q s M' h1 h2
theorem d_kno {one other : Nm} (hM : Fs rest [] M) (hw : WOk w) (hl : w.length ≤ 20) (hc : Closed w L) (hs : L.Pairwise fun a b => a.1 ≤ b.1)
    (q : one ∈ L → other ∈ L → ∀ M', Fs rest [] M' → P (.bl (decide (other ∈ knowsW w one))) M') (q1 : one ∉ L → ∀ M', Fs rest [] M' → E "NoName" [("name", nameA one)] M')
    (q2 : one ∈ L → other ∉ L → ∀ M', Fs rest [] M' → E "NoName" [("name", nameA other)] M') : wpR (m_kno [ledA w L, nameA one, nameA other] M) P E := by
  have hL : ∀ x ∈ L, x ∈ namesW w := fun x hx => (hc x hx).1
  refine wp_gcE hM ?_
  refine wp_def rfl ?_
  unfold kno_b
  refine wp_seq (fun G M => one ∈ L ∧ G = [some (ledA w L), some (nameA one), some (nameA other), some (.tup ((recOf w one).base.map nameA))] ∧ Fs rest [] M) ?_ ?_
  · simp! []
    refine d_chof hM hw hL (fun h M1 h1 => ?_) fun h M1 h1 => ⟨by simp [plain_name], h1.ofT, q1 h⟩
    simp! [w_rec2]
    first | exact ⟨h, rfl, h1⟩ | exact ⟨h, h1⟩
  rintro _ M ⟨h1, rfl, hM⟩
  refine wp_seq (fun G M => other ∈ L ∧ G = [some (ledA w L), some (nameA one), some (nameA other), some (.tup ((recOf w one).base.map nameA))] ∧ Fs rest [] M) ?_ ?_
  · simp! []
    refine d_chof hM hw hL (fun h M1 h1 => ?_) fun h M1 hM1 => ⟨by simp [plain_name], hM1.ofT, q2 h1 h⟩
    first | exact ⟨h, rfl, h1⟩ | exact ⟨h, h1⟩
  rintro _ M ⟨h2, rfl, hM⟩
  have hbL : ∀ b ∈ (recOf w one).base, b ∈ L := fun b hb => (hc one h1).2 b (base_sub hw (hL one h1) hb)
  simp! []
  refine d_spr hM hw hl hc hs hbL fun s M1 hsx h => ?_
  have hin : gIn false (nameA other) (.ref (rest.length + 1)) M1 = .ok (.bl (if false then !(getK (trueK s) (nameK other)).isSome else (getK (trueK s) (nameK other)).isSome)) M1 := f_inT (i := rest.length) h (by simp) (keyT_name other)
  rw [if_neg (by decide), getK_isSome, List.map_id] at hin
  have hk : (other ∈ s) ↔ other ∈ knowsW w one := by
    rw [hsx]
    constructor
    · rintro (z | ⟨n, hn, hk⟩)
      · exact base_sub hw (hL one h1) z
      · exact ((hw.trans one (hL one h1)).1 n (base_sub hw (hL one h1) hn)).2.2 other hk
    · intro z
      obtain ⟨b, hb, e | e⟩ := base_cover hw (hL one h1) z
      · exact .inl (e ▸ hb)
      · exact .inr ⟨b, hb, e⟩
  rw [hin]
  simp! []
  refine ⟨rfl, ⟨_, h⟩, fun M'' h'' => ?_⟩
  rw [show decide (other ∈ s) = decide (other ∈ knowsW w one) from decide_eq_decide.mpr hk]
  exact q h1 h2 M'' h''
end
end Px

namespace Px
open PySem hiding Env plain
open L2 Mx StrLaws
local macro_rules | `(tactic| simp! [$ls,*]) => `(tactic| try simp -implicitDefEqProofs only [w_enumT, v_enumC, v_enumT, v_seqC, v_lenC, v_listC, v_listRL, w_keys, List.map_cons, List.map_nil, List.cons_append, List.nil_append, List.replicate, List.set_cons_succ, List.set_cons_zero, wipeG, wpS_then, wpS_set, wpS_if, wpS_mret, wpS_retN, wpS_mnext, wpS_mbrk, wpS_mcnt, wpS_exp, wpS_asg, wpS_for, w_c, w_bin, w_un, w_ifE, w_andV, w_orV, w_notV, w_call, w_chain, w_meth, w_meth0, w_sl, w_noPart, w_part, w_nil, w_cons, w_bl, w_tru, w_and, w_or, w_not, w_lcV, w_lcR, w_lc, w_seq, w_rng1, w_rng2, w_var0, w_var1, w_var2, w_var3, w_var4, w_var5, w_var6, w_var7, w_var8, w_var9, w_var10, w_var11, w_var12, w_var13, w_var14, w_var15, w_var16, w_var17, w_var18, w_var19, w_var20, w_dictT, w_dictK, w_gTp, wpS_par, wpS_par3, w_zip, w_enum, w_rev, v_zipL, v_zipT, v_enumL, v_revL, v_revT, w_gsCons, w_gsNil, w_callK, wpR_ok, wpR_sized, v_nm, v_addI, v_addS, v_addT, v_addL, v_sub, v_neg, w_mul, w_div, w_mod, w_pow, v_ordI, v_eqI, v_neI, v_eqS, v_neS, v_lenS, v_lenL, v_lenF, v_lenT, v_truB, v_seqS, v_seqT, v_seqL, v_seqF, v_listT, v_listL, v_tupleL, v_tupleT, v_tupD, v_lstD, v_lstR, v_slT, v_slL, v_slF, w_slS, defD_rt, defD_nx, defD_ex, defD_bk, defD_ct, AV.bl.injEq, AV.int.injEq, Option.some.injEq, exists_eq_left', tyS, if_true, if_false, Bool.false_eq_true, true_and, and_true, $ls,*])
theorem eqv_namesL : ∀ R T : List Nm, PyData.eqvAll (toDs (R.map nameA)) (toDs (T.map nameA)) = decide (R = T)
  | [], [] => by simp [toDs, PyData.eqvAll]
  | [], b :: t => by simp [toDs, PyData.eqvAll]
  | a :: r, [] => by simp [toDs, PyData.eqvAll]
  | a :: r, b :: t => by
    have h : PyData.eqv (toD (nameA a)) (toD (nameA b)) = decide (a = b) := aeq_name a b
    simp only [List.map_cons, toDs, PyData.eqvAll, h, eqv_namesL r t, List.cons.injEq]
    by_cases h1 : a = b <;> by_cases h2 : r = t <;> simp [h1, h2]
structure ShL (d n : Nat) (xs : List AV) : Prop where
  pl : ∀ a ∈ xs, plain d a = true ∧ (toD a).showable = true
  le : (xs.map fun a => (shw a).length).sum ≤ n
theorem shl_tup {d n : Nat} {xs : List AV} (h : ShL d n xs) : Sh (d + 1) (n + 2 * xs.length + 3) (.tup xs) := by
  refine ⟨?_, ?_, ?_⟩
  · simp only [plain, List.all_eq_true]
    exact fun x hx => (h.pl x hx).1
  · simp only [toD, PyData.showable]
    refine showableAll_of _ fun x hx => ?_
    rw [toDs_map] at hx
    obtain ⟨a, ha, rfl⟩ := List.mem_map.mp hx
    exact (h.pl a ha).2
  · simp only [shw, toD, PyData.shown, shownAll_map, toDs_map, List.map_map]
    refine Nat.le_trans (tupleText_len_le _) ?_
    have := h.le
    simp only [List.map_map, List.length_map]
    have e : (List.map ((fun x => x.length) ∘ PyData.shown ∘ toD) xs).sum = (xs.map fun a => (shw a).length).sum := rfl
    rw [e]
    omega
section
variable {w : List Rc} {rest : List AV} {fz : List Nat} {G : Env} {M : AH} {P : AV → AH → Prop} {E : Str → List (Str × AV) → AH → Prop} {a b : AV} {A B R T : List Nm} {xs : List AV}
theorem plain_row (ha : RowA a (R.map nameA)) : plain 60 a = true ∧ ∀ M, top M a = a := by
  rcases ha with rfl | rfl
  · exact ⟨by simp only [plain, List.all_map, List.all_eq_true]; exact fun n _ => rfl, fun _ => rfl⟩
  · exact ⟨by simp only [plain, List.all_map, List.all_eq_true]; exact fun n _ => rfl, fun _ => rfl⟩
theorem aeq_row (ha : RowA a (R.map nameA)) (hb : RowA b (T.map nameA)) : aeq a b = decide (R = T) := by
  rcases ha with rfl | rfl <;> rcases hb with rfl | rfl <;> simp only [aeq, toD, PyData.eqv, eqv_namesL]
theorem v_eqRow (ha : RowA a (R.map nameA)) (hb : RowA b (T.map nameA)) : gEq a b M = .ok (.bl (decide (R = T))) M := by
  have h1 := plain_row ha
  have h2 := plain_row hb
  simp only [gEq, h1.2, h2.2, h1.1, h2.1, Bool.and_self, if_true, aeq_row ha hb]
theorem w_nee {c : Bool} {s : Str} {k : Int} : wpR (m_nee [.bl c, .str s, .int k] M) P E = if c = true then P .non M else E "NoPaper" [("at", .int k), ("word", .str s)] M := by
  have hc : Clean M.objs.length M M := clean_same _ M (Nat.le_refl _)
  cases c with
  | true =>
    have e : mDef 3 0 nee_b [.bl true, .str s, .int k] M = .ok .non M := by with_unfolding_all rfl
    unfold m_nee gc
    rw [e]
    have e2 : fin M.objs.length M .non = .non := rfl
    have e3 : cl M.objs.length .non = true := rfl
    simp only [e2, e3, hc, and_self, if_true, cut_same, wpR_ok]
  | false =>
    have e : mDef 3 0 nee_b [.bl false, .str s, .int k] M = .exc "NoPaper" [("at", .int k), ("word", .str s)] M := by with_unfolding_all rfl
    unfold m_nee gc
    rw [e]
    have e3 : ([(("at" : Str), AV.int k), ("word", .str s)].all fun p => cl M.objs.length p.2) = true := rfl
    simp only [e3, hc, and_self, if_true, cut_same, wpR_exc]
    rfl
end
def plA (n : Nat) : AV → Option Nat
  | .int i => if 0 ≤ i ∧ i + 1 < n then some i.toNat else none
  | _ => none
theorem plA_int (n : Nat) (i : Int) : plA n (.int i) = if 0 ≤ i ∧ i + 1 < n then some i.toNat else none := rfl
def badAt (n : Nat) (xs : List AV) : Option Nat := xs.findIdx? fun a => (plA n a).isNone
def wkE (w : List Rc) : List Nm → List AV → Nat → Nat ⊕ List Nm
  | R, [], _ => .inr R
  | R, a :: r, k => match plA R.length a with
    | some i => if (R[i]?.bind fun x => R[i + 1]?.map fun y => decide (x ∈ knowsW w y)) = some true then .inl k else wkE w (swp R i) r (k + 1)
    | none => .inl k
def lexE (w : List Rc) (A B : List Nm) (xs : List AV) : Nat ⊕ (Str × Int) := match badAt A.length xs with
  | some k => .inr ("place", k)
  | none => match wkE w A xs 0 with
    | .inl k => .inr ("known", k)
    | .inr R => if R = B then .inl xs.length else .inr ("end", -1)
theorem plA_num {n : Nat} {a : AV} (h : (plA n a).isSome = true) : ∃ k : Nat, a = .int k ∧ k + 1 < n ∧ plA n a = some k := by
  cases a with
  | int i =>
    rw [plA_int] at h ⊢
    by_cases e : 0 ≤ i ∧ i + 1 < n
    · refine ⟨i.toNat, ?_, by omega, by rw [if_pos e]⟩
      rw [Int.toNat_of_nonneg e.1]
    · rw [if_neg e] at h
      cases h
  | _ => cases h
theorem bad_none {n : Nat} {xs : List AV} (h : ∀ j (hj : j < xs.length), (plA n xs[j]).isSome = true) : badAt n xs = none := by
  unfold badAt
  rw [List.findIdx?_eq_none_iff]
  intro x hx
  obtain ⟨j, hj, rfl⟩ := List.getElem_of_mem hx
  have := h j hj
  cases e : plA n xs[j] with
  | none => rw [e] at this; cases this
  | some k => rfl
theorem bad_some {n k : Nat} {xs : List AV} (hk : k < xs.length) (h1 : (plA n xs[k]).isNone = true) (h : ∀ j (hj : j < k), (plA n (xs[j]'(by omega))).isSome = true) : badAt n xs = some k := by
  unfold badAt
  rw [List.findIdx?_eq_some_iff_getElem]
  refine ⟨hk, h1, fun j hj => ?_⟩
  have := h j hj
  cases e : plA n (xs[j]'(by omega)) with
  | none => rw [e] at this; cases this
  | some k => simp
theorem wkE_cons {w : List Rc} {R : List Nm} {a : AV} {r : List AV} {k i : Nat} (h : plA R.length a = some i) (hi : i + 1 < R.length) : wkE w R (a :: r) k = if R[i] ∈ knowsW w R[i + 1] then .inl k else wkE w (swp R i) r (k + 1) := by
  show (match plA R.length a with
    | some i => if (R[i]?.bind fun x => R[i + 1]?.map fun y => decide (x ∈ knowsW w y)) = some true then Sum.inl k else wkE w (swp R i) r (k + 1)
    | none => .inl k) = _
  rw [h]
  simp only
  rw [List.getElem?_eq_getElem (show i < R.length by omega), List.getElem?_eq_getElem hi]
  simp only [Option.bind_some, Option.map_some, Option.some.injEq, decide_eq_true_eq]
noncomputable def let_b : SM := mThen (mExp (mCall m_nee (mCons (mUn (gIsi "tuple") (mVar 3)) (mCons (mC (.str "shape")) (mCons (mUn gNeg (mC (.int 1))) (mNil)))))) (mThen (mFor (mEnumT (mCons (mVar 3) (mNil))) (gTp 2 (gsCons (gNm 4) (gsCons (gNm 5) (gsNil)))) (mExp (mCall m_nee (mCons (mAndV (mCall m_num (mCons (mVar 5) (mNil))) (mChain gLe gLe (mC (.int 0)) (mVar 5) (mBin gSub (mCall gLen (mCons (mVar 1) (mNil))) (mC (.int 2))))) (mCons (mC (.str "place")) (mCons (mVar 4) (mNil))))))) (mThen (mSet 6 (mVar 1)) (mThen (mFor (mEnumT (mCons (mVar 3) (mNil))) (gTp 2 (gsCons (gNm 4) (gsCons (gNm 5) (gsNil)))) (mThen (mExp (mCall m_nee (mCons (mNotV (mCall m_kno (mCons (mVar 0) (mCons (mBin gIx (mVar 6) (mBin gAdd (mVar 5) (mC (.int 1)))) (mCons (mBin gIx (mVar 6) (mVar 5)) (mNil)))))) (mCons (mC (.str "known")) (mCons (mVar 4) (mNil)))))) (mSet 6 (mCall m_exch (mCons (mVar 6) (mCons (mVar 5) (mNil))))))) (mThen (mExp (mCall m_nee (mCons (mBin gEq (mVar 6) (mVar 2)) (mCons (mC (.str "end")) (mCons (mUn gNeg (mC (.int 1))) (mNil)))))) (mRet (mCall gLen (mCons (mVar 3) (mNil))))))))
noncomputable def m_let : List AV → AH → Res AV := gc (mDef 4 3 let_b)
section
variable {w : List Rc} {rest : List AV} {M : AH} {P : AV → AH → Prop} {E : Str → List (Str × AV) → AH → Prop} {c : AV} {A B : List Nm} {xs : List AV}
def PaperE (P : AV → AH → Prop) (E : Str → List (Str × AV) → AH → Prop) (M : AH) : Nat ⊕ (Str × Int) → Prop
  | .inl n => P (.int (n : Nat)) M
  | .inr (s, i) => E "NoPaper" [("at", .int i), ("word", .str s)] M
theorem v_isTC (xs : List AV) : gIsi "tuple" (.tup xs) M = .ok (.bl true) M := by simp [gIsi, tyN, isiB]
theorem d_letN {one other : AV} (hM : Fs rest [] M) {led : AV} (hc : ∀ M, gIsi "tuple" c M = .ok (.bl false) M) (q : ∀ M', Fs rest [] M' → PaperE P E M' (.inr ("shape", -1))) : wpR (m_let [led, one, other, c] M) P E := by
  refine wp_gcE hM ?_
  refine wp_def rfl ?_
  unfold let_b
  simp! [hc, w_nee]
  exact ⟨rfl, hM.ofT, fun M' h' => q M' h'⟩
theorem lt_of {n : Nat} {a : AV} (h : isNumA a = true) : ∃ i : Int, a = .int i := by
  cases a with
  | int i => exact ⟨i, rfl⟩
  | _ => cases h
theorem d_let {one other : AV} (hM : Fs rest [] M) (hw : WOk w) (hl : w.length ≤ 20) (h1 : RowA one (A.map nameA)) (h2 : RowA other (B.map nameA)) (hA : ∀ n ∈ A, n ∈ namesW w) (hAl : A.length ≤ 1000) (hx : ∀ a ∈ xs, plain 10 a = true) (hxl : xs.length ≤ 16777216)
    (q : ∀ M', Fs rest [] M' → PaperE P E M' (lexE w A B xs)) : wpR (m_let [ledA w (allN w), one, other, .tup xs] M) P E := by
  refine wp_gcE hM ?_
  refine wp_def rfl ?_
  unfold let_b
  have fail : ∀ (s : Str) (i : Int) M', lexE w A B xs = .inr (s, i) → Fs rest [] M' → ([(("at" : Str), AV.int i), ("word", .str s)].all fun p => plain 60 p.2) = true ∧ (∃ tmp, Fs (rest ++ tmp) [] M') ∧ ∀ M'', Fs rest [] M'' → E "NoPaper" [("at", .int i), ("word", .str s)] M'' := fun s i M' e hF => ⟨rfl, hF.ofT, fun M'' h'' => by
    have := q M'' h''
    rw [e] at this
    exact this⟩
  refine wp_seq (fun G M => G = [some (ledA w (allN w)), some one, some other, some (.tup xs), none, none, none] ∧ Fs rest [] M) ?_ ?_
  · simp! [v_isTC, w_nee]
    first | exact ⟨rfl, hM⟩ | exact hM
  rintro _ M ⟨rfl, hM⟩
  refine wp_seq (fun G M => (∀ j (hj : j < xs.length), (plA A.length xs[j]).isSome = true) ∧ (∃ g4 g5, G = [some (ledA w (allN w)), some one, some other, some (.tup xs), g4, g5, none]) ∧ Fs rest [] M) ?_ ?_
  · rw [wpS_for]
    have een : gEnumT [.tup xs] M = .ok ⟨enumA xs, none⟩ M := rfl
    simp! [een]
    refine wp_loop (fun k G M => (∀ j (hj : j < xs.length), j < k → (plA A.length xs[j]).isSome = true) ∧ (∃ g4 g5, G = [some (ledA w (allN w)), some one, some other, some (.tup xs), g4, g5, none]) ∧ Fs rest [] M) _ 0 _ _ ⟨fun _ _ h => absurd h (by omega), ⟨_, _, rfl⟩, hM⟩ ?_ ?_
    · rintro j x G M hj ⟨hok, ⟨g4, g5, rfl⟩, hF⟩
      rw [Nat.zero_add] at *
      obtain ⟨y, hy, rfl⟩ := enum_get hj
      obtain ⟨hjl, hy2⟩ := List.getElem?_eq_some_iff.mp hy
      have hym : y ∈ xs := hy2 ▸ List.getElem_mem _
      have hp := hx y hym
      have good : ∀ c : Bool, c = (plA A.length y).isSome → (if c = true then (∀ i (hi : i < xs.length), i < j + 1 → (plA A.length xs[i]).isSome = true) else lexE w A B xs = .inr ("place", (j : Nat))) := fun c hc => by
        cases c with
        | true =>
          intro i hi hij
          by_cases e : i = j
          · subst e
            rw [hy2]
            exact hc.symm
          · exact hok i hi (by omega)
        | false =>
          rw [if_neg (by decide)]
          have hb : badAt A.length xs = some j := bad_some hjl (by
            rw [hy2]
            cases e : plA A.length y with
            | none => rfl
            | some k => rw [e] at hc; cases hc) fun i hi => hok i (by omega) hi
          unfold lexE
          rw [hb]
      simp! [q_num hp]
      refine ⟨rfl, ?_⟩
      by_cases hn : isNumA y = true
      · obtain ⟨i, rfl⟩ := lt_of (n := 0) hn
        rw [if_pos hn]
        simp! [r_len h1, List.length_map]
        have hc : (plA A.length (.int i)).isSome = (decide (0 ≤ i) && decide (i ≤ (A.length : Int) - 2)) := by
          rw [plA_int]
          by_cases e : 0 ≤ i ∧ i + 1 < A.length
          · rw [if_pos e, decide_eq_true e.1, decide_eq_true (by omega)]
            rfl
          · rw [if_neg e]
            by_cases e1 : 0 ≤ i
            · rw [decide_eq_true e1, decide_eq_false (by omega)]
              rfl
            · rw [decide_eq_false e1]
              rfl
        have g := good _ hc.symm
        split
        · rename_i e0
          rw [e0, Bool.true_and] at g
          simp! [w_nee]
          split
          · rename_i e1
            rw [e1, if_pos rfl] at g
            exact ⟨g, ⟨_, _, rfl⟩, hF⟩
          · rename_i e1
            have e1 : decide (i ≤ (A.length : Int) - 2) = false := by simpa using e1
            rw [e1, if_neg (by decide)] at g
            exact fail _ _ _ g hF
        · rename_i e0
          have e0 : decide (0 ≤ i) = false := by simpa using e0
          rw [e0, Bool.false_and, if_neg (by decide)] at g
          simp! [w_nee]
          exact fail _ _ _ g hF
      · have hn : isNumA y = false := by simpa using hn
        have hc : (plA A.length y).isSome = false := by
          cases y <;> first | rfl | cases hn
        have g := good _ hc.symm
        rw [if_neg (by decide)] at g
        rw [if_neg (by rw [hn]; decide)]
        simp! [w_nee]
        exact fail _ _ _ g hF
    · rintro G M ⟨hok, hG, hF⟩
      refine ⟨fun j hj => hok j hj ?_, hG, hF⟩
      have : (enumA xs).length = xs.length := by simp [enumA]
      omega
  rintro _ M ⟨hok, ⟨g4, g5, rfl⟩, hM⟩
  have hbad := bad_none hok
  have hlex : lexE w A B xs = (match wkE w A xs 0 with
    | .inl k => .inr ("known", (k : Int))
    | .inr R => if R = B then .inl xs.length else .inr ("end", -1)) := by
    unfold lexE
    rw [hbad]
  refine wp_seq (fun G M => G = [some (ledA w (allN w)), some one, some other, some (.tup xs), g4, g5, some one] ∧ Fs rest [] M) ?_ ?_
  · simp! []
    first | exact ⟨rfl, hM⟩ | exact hM
  rintro _ M ⟨rfl, hM⟩
  refine wp_seq (fun G M => (∃ g4 g5 g6 R, G = [some (ledA w (allN w)), some one, some other, some (.tup xs), g4, g5, some g6] ∧ RowA g6 (R.map nameA) ∧ A.Perm R ∧ wkE w A xs 0 = .inr R) ∧ Fs rest [] M) ?_ ?_
  · rw [wpS_for]
    have een : gEnumT [.tup xs] M = .ok ⟨enumA xs, none⟩ M := rfl
    simp! [een]
    refine wp_loop (fun k G M => (∃ g4 g5 g6 R, G = [some (ledA w (allN w)), some one, some other, some (.tup xs), g4, g5, some g6] ∧ RowA g6 (R.map nameA) ∧ A.Perm R ∧ wkE w A xs 0 = wkE w R (xs.drop k) k) ∧ Fs rest [] M) _ 0 _ _ ⟨⟨_, _, _, A, rfl, h1, .refl _, rfl⟩, hM⟩ ?_ ?_
    · rintro j x G M hj ⟨⟨g4, g5, g6, R, rfl, hR, hAR, hwk⟩, hF⟩
      rw [Nat.zero_add] at *
      obtain ⟨y, hy, rfl⟩ := enum_get hj
      obtain ⟨hjl, hy2⟩ := List.getElem?_eq_some_iff.mp hy
      have hsome := hok j hjl
      rw [hy2, hAR.length_eq] at hsome
      obtain ⟨k, rfl, hk, hpk⟩ := plA_num hsome
      rw [List.drop_eq_getElem_cons hjl, hy2, wkE_cons hpk hk] at hwk
      have hRw : ∀ n ∈ R, n ∈ namesW w := fun n hn => hA n (hAR.mem_iff.mpr hn)
      have i1 : atI (R.map nameA) ((k : Int) + 1) = some (nameA R[k + 1]) := by
        rw [show ((k : Int) + 1) = ((k + 1 : Nat) : Int) by omega, at_nat (by rw [List.length_map]; omega)]
        simp
      have i2 : atI (R.map nameA) (k : Int) = some (nameA R[k]) := by
        rw [at_nat (by rw [List.length_map]; omega)]
        simp
      have hc1 : R[k + 1] ∈ namesW w := hRw _ (List.getElem_mem _)
      have hc2 : R[k] ∈ namesW w := hRw _ (List.getElem_mem _)
      have hcl : Closed w (allN w) := fun x hx => ⟨mem_allN.mp hx, fun y hy => mem_allN.mpr ((hw.trans x (mem_allN.mp hx)).1 y hy).1⟩
      have hRl : R.length ≤ 1000 := by rw [← hAR.length_eq]; exact hAl
      simp! [r_ix hR, i1, i2]
      refine ⟨rfl, ?_⟩
      refine d_kno hF hw hl hcl (sorted_allN w) (fun _ _ M1 hM1 => ?_) (fun z => absurd (mem_allN.mpr hc1) z) fun _ z => absurd (mem_allN.mpr hc2) z
      simp! [w_nee]
      by_cases hkn : R[k] ∈ knowsW w R[k + 1]
      · rw [if_pos hkn] at hwk
        rw [if_neg (by simp [hkn])]
        refine fail _ _ _ ?_ hM1
        rw [hlex, hwk]
      · rw [if_neg hkn] at hwk
        rw [if_pos (by simp [hkn])]
        simp! [q_exch hR hk hRl]
        exact ⟨⟨_, _, _, swp R k, rfl, .inl rfl, hAR.trans (swp_perm R k).symm, hwk⟩, hM1⟩
    · rintro G M ⟨⟨g4, g5, g6, R, rfl, hR, hAR, hwk⟩, hF⟩
      have : (enumA xs).length = xs.length := by simp [enumA]
      rw [Nat.zero_add, this, List.drop_length] at hwk
      exact ⟨⟨_, _, _, R, rfl, hR, hAR, hwk⟩, hF⟩
  rintro _ M ⟨⟨g4, g5, g6, R, rfl, hR, hAR, hwk⟩, hM⟩
  rw [hwk] at hlex
  simp only at hlex
  by_cases e : R = B
  · rw [if_pos e] at hlex
    simp! [v_eqRow hR h2, w_nee]
    rw [if_pos (by simp [e])]
    refine ⟨rfl, hM.ofT, fun M' h' => ?_⟩
    have := q M' h'
    rw [hlex] at this
    exact this
  · rw [if_neg e] at hlex
    simp! [v_eqRow hR h2, w_nee]
    rw [if_neg (by simp [e])]
    exact fail _ _ _ hlex hM
end
end Px

namespace Px
open PySem hiding Env plain
open L2 Mx StrLaws PySem.W
theorem nle_anti {a b : Nm} (h1 : (!nlt b a) = true) (h2 : (!nlt a b) = true) : a = b := by
  rw [nle_iff] at h1 h2
  rcases h1 with h1 | ⟨h1, q1⟩ <;> rcases h2 with h2 | ⟨h2, q2⟩
  · omega
  · omega
  · omega
  · have e : a.2.cps.toList = b.2.cps.toList := List.le_antisymm (List.not_lt.mp q1) (List.not_lt.mp q2)
    obtain ⟨i, ⟨x⟩⟩ := a
    obtain ⟨j, ⟨y⟩⟩ := b
    have h1 : i = j := h1
    have e : x.toList = y.toList := e
    rw [h1, Array.toList_inj.mp e]
theorem pw_sortN (L : List Nm) : (sortN L).Pairwise fun a b => (!nlt b a) = true := List.pairwise_mergeSort (le := fun a b => !nlt b a) (fun a b c h1 h2 => nle_trans a b c h1 h2) (fun a b => nle_total a b) L
theorem perm_sortN (L : List Nm) : (sortN L).Perm L := List.mergeSort_perm ..
theorem sortN_ext {L1 L2 : List Nm} (h1 : L1.Nodup) (h2 : L2.Nodup) (h : ∀ n, n ∈ L1 ↔ n ∈ L2) : sortN L1 = sortN L2 := by
  have p : (sortN L1).Perm (sortN L2) := (perm_sortN L1).trans (((List.perm_ext_iff_of_nodup h1 h2).mpr h).trans (perm_sortN L2).symm)
  exact List.Perm.eq_of_pairwise (le := fun a b => (!nlt b a) = true) (fun a b _ _ q r => nle_anti q r) (pw_sortN L1) (pw_sortN L2) p
def dedN (L : List Nm) : List Nm := L.foldl insN []
theorem dedN_go : ∀ (L s : List Nm), s.Nodup → (L.foldl insN s).Nodup ∧ ∀ n, n ∈ L.foldl insN s ↔ n ∈ s ∨ n ∈ L
  | [], s, h => ⟨h, by simp⟩
  | a :: r, s, h => by
    obtain ⟨h1, h2⟩ := dedN_go r (insN s a) (nd_insN h)
    refine ⟨h1, fun n => ?_⟩
    rw [List.foldl_cons, h2, mem_insN, List.mem_cons, or_assoc]
theorem nd_dedN (L : List Nm) : (dedN L).Nodup := (dedN_go L [] .nil).1
theorem mem_dedN {L : List Nm} {n : Nm} : n ∈ dedN L ↔ n ∈ L := by
  rw [dedN, (dedN_go L [] .nil).2]
  simp
noncomputable def setN (L : List Nm) : List Nm := sortN (dedN L)
theorem mem_setN {L : List Nm} {n : Nm} : n ∈ setN L ↔ n ∈ L := mem_sortN.trans mem_dedN
theorem nd_setN (L : List Nm) : (setN L).Nodup := (perm_sortN _).nodup_iff.mpr (nd_dedN L)
def nmOf : AV → Option Nm
  | .tup [.int i, .str x] => some (i, x)
  | _ => none
def nmsOf : List AV → Option (List Nm)
  | [] => some []
  | a :: r => match nmOf a, nmsOf r with
    | some n, some L => some (n :: L)
    | _, _ => none
theorem nmOf_eq {a : AV} {n : Nm} (h : nmOf a = some n) : a = nameA n := by
  unfold nmOf at h
  split at h
  · cases h; rfl
  · cases h
theorem nmsOf_eq : ∀ {xs : List AV} {L : List Nm}, nmsOf xs = some L → xs = L.map nameA
  | [], L, h => by cases h; rfl
  | a :: r, L, h => by
    unfold nmsOf at h
    split at h
    · rename_i n L' e1 e2
      cases h
      rw [nmOf_eq e1, nmsOf_eq e2]
      rfl
    · cases h
theorem nmsOf_map : ∀ L : List Nm, nmsOf (L.map nameA) = some L
  | [] => rfl
  | n :: r => by
    show nmsOf (nameA n :: r.map nameA) = _
    unfold nmsOf
    rw [nmsOf_map r]
    rfl
noncomputable def gSortSet : AV → AH → Res AV := fun a M => match lstR M a with
  | some xs => match nmsOf xs with
    | some L => if L.length < 64 then .ok (.lst ((setN L).map nameA)) M else .stuck
    | none => .stuck
  | none => .stuck
theorem vr_name {K : PySem.W.Frag} {i : Ix} {H : Hp} {v : V} {n : Nm} (r : VR K i H v (nameA n)) : ∃ c, v = .ref c ∧ H c = some (.tup ((nameK n).map kV)) := by
  have r : VR K i H v (.tup [.int n.1, .str n.2]) := r
  cases r with
  | tup h1 _ h3 =>
    cases h3 with
    | cons a t =>
      cases t with
      | cons b t =>
        cases t
        cases a
        cases b
        exact ⟨_, rfl, h1⟩
theorem vrs_names {K : PySem.W.Frag} {i : Ix} {H : Hp} : ∀ {us : List V} {L : List Nm}, VRs K i H us (L.map nameA) → ∃ ks : List (List Key × Addr), us = ks.map (fun p => V.ref p.2) ∧ ks.map Prod.fst = L.map nameK ∧
    ∀ p ∈ ks, ∃ n ∈ L, p.1 = nameK n ∧ H p.2 = some (.tup (p.1.map kV)) ∧ VR K i H (.ref p.2) (.tup (p.1.map keyAV))
  | _, [], h => by
    cases h
    exact ⟨[], rfl, rfl, fun _ z => nomatch z⟩
  | _, n :: L, h => by
    have h : VRs K i H _ (nameA n :: L.map nameA) := h
    cases h with
    | cons r t =>
      obtain ⟨c, rfl, hc⟩ := vr_name r
      obtain ⟨ks, rfl, e2, e3⟩ := vrs_names t
      refine ⟨(nameK n, c) :: ks, rfl, by rw [List.map_cons, List.map_cons, e2], fun p hp => ?_⟩
      rcases List.mem_cons.mp hp with rfl | hp
      · exact ⟨n, List.mem_cons_self, rfl, hc, r⟩
      · obtain ⟨m, hm, q⟩ := e3 p hp
        exact ⟨m, List.mem_cons_of_mem _ hm, q⟩
theorem names_back {α : Type} {f : α → List Key} {L : List Nm} : ∀ N : List α, (∀ p ∈ N, ∃ n ∈ L, f p = nameK n) → ∃ N2 : List Nm, N.map f = N2.map nameK ∧ ∀ n ∈ N2, n ∈ L
  | [], _ => ⟨[], rfl, fun _ z => nomatch z⟩
  | p :: r, h => by
    obtain ⟨N2, e, hm⟩ := names_back r fun q hq => h q (List.mem_cons_of_mem _ hq)
    obtain ⟨n, hn, en⟩ := h p List.mem_cons_self
    refine ⟨n :: N2, by rw [List.map_cons, List.map_cons, e, en], fun m hm2 => ?_⟩
    rcases List.mem_cons.mp hm2 with rfl | z
    · exact hn
    · exact hm m z
theorem o_sortset {C : Cm} : Op1 C (rSortSet C.K) gSortSet := fun i M H x a Q W s r p => by
  unfold gSortSet at p
  cases e1 : lstR M a with
  | none => simp only [e1] at p; exact False.elim p
  | some xs =>
    simp only [e1] at p
    cases e2 : nmsOf xs with
    | none => simp only [e2] at p; exact False.elim p
    | some L =>
      simp only [e2] at p
      by_cases fw : L.length < 64
      · rw [if_pos fw] at p
        have e3 := nmsOf_eq e2
        subst e3
        obtain ⟨l, us, rfl, h1, h2⟩ := lstR_at s r e1
        obtain ⟨ks, rfl, k1, k2⟩ := vrs_names h2
        have hl : ks.length = L.length := by
          have := congrArg List.length k1
          simpa using this
        have hrow : ∀ N : List (List Key × Addr), (N.map rowV).map (·.2) = (N.map Prod.fst).map fun k => AV.tup (k.map keyAV) := fun N => by
          rw [List.map_map, List.map_map]
          rfl
        have hkn : ∀ N : List Nm, (N.map nameK).map (fun k => AV.tup (k.map keyAV)) = N.map nameA := fun N => by
          rw [List.map_map]
          rfl
        have hvr : ∀ b ∈ ks.map rowV, VR C.K i H b.1 b.2 := fun b hb => by
          obtain ⟨p, hp, rfl⟩ := List.mem_map.mp hb
          obtain ⟨n, _, _, _, q⟩ := k2 p hp
          exact q
        have ok : SrtOk C.K H (ks.map rowV) := srt_of hvr (by rw [hrow, k1, hkn]; exact sortOk_names L)
        refine ⟨l, ks, rfl, h1, fun p hp => ?_, by omega, ok, fun N n1 n2 n3 l2 hl2 => ?_⟩
        · obtain ⟨n, _, _, q, _⟩ := k2 p hp
          exact sq_of q
        obtain ⟨N2, f1, f2⟩ := names_back (f := Prod.fst) (L := L) N fun p hp => by
          obtain ⟨n, hn, e, _⟩ := k2 p (n1 p hp)
          exact ⟨n, hn, e⟩
        have m2 : ∀ n, n ∈ N2 ↔ n ∈ L := fun n => ⟨f2 n, fun hn => by
          have h3 : nameK n ∈ ks.map Prod.fst := by
            rw [k1]
            exact List.mem_map.mpr ⟨n, hn, rfl⟩
          obtain ⟨p, hp, e⟩ := List.mem_map.mp h3
          have h4 := n2 p hp
          rw [e, f1] at h4
          obtain ⟨m, hm, e⟩ := List.mem_map.mp h4
          rw [← nameK_inj e]
          exact hm⟩
        have d2 : N2.Nodup := by
          rw [f1] at n3
          exact List.Pairwise.of_map nameK (fun _ _ hne e => hne (congrArg nameK e)) n3
        have e4 : (sortVA (N.map rowV)).map (·.2) = (setN L).map nameA := by
          rw [sortVA_snd, hrow, f1, hkn, sortA_names, sortN_ext d2 (nd_dedN L) fun n => (m2 n).trans mem_dedN.symm]
          rfl
        have hr : VRs C.K i H ((sortVA (N.map rowV)).map (·.1)) ((setN L).map nameA) := by
          rw [← e4]
          exact vrs_unzip fun b hb => hvr b (by
            unfold sortVA at hb
            obtain ⟨p, hp, rfl⟩ := List.mem_map.mp (List.mem_mergeSort.mp hb)
            exact List.mem_map.mpr ⟨p, n1 p hp, rfl⟩)
        exact p _ i _ (Ext.fresh hl2) (s.fresh hl2) (.lst upd_same (s.notin hl2) (hr.mono (Ext.fresh hl2)))
      · rw [if_neg fw] at p
        exact False.elim p
theorem e_sortset {X : Cx} {W : WX} {p p2 q pos : Pos} {e : Expr} {m : EM} (hc : X.calm = true) (hu : X.A.units + 64 < cLine) (hg : Gl X "sorted") (hm : X.mg "sorted" = none) (hg2 : Gl X "set") (hm2 : X.mg "set" = none) (he : PE X e (tE (cm X) W m))
    (na : starEach [e] X.env = (false, eval e X.env) :: starEach [] X.env := by rfl) : PE X (.Call (.Name "sorted" p) [.Call (.Name "set" p2) [e] [] q] [] pos) (tE (cm X) W (mUn gSortSet m)) :=
  PE.imp (pe_sortset hc hu hg hm hg2 hm2 he na) fun σ H Q h => by
    have h1 := tM.bind (R := RV (cm X)) (m := m) (f := fun G a M1 => gSortSet a M1) h
    exact tM.imp h1 fun x H1 ⟨j, G, a, M, s, r, rr, z⟩ => o_sortset j M H1 x a Q _ s rr z
end Px

namespace Px
open PySem hiding Env plain
open L2 Mx StrLaws
local macro_rules | `(tactic| simp! [$ls,*]) => `(tactic| try simp -implicitDefEqProofs only [w_enumT, v_enumC, v_enumT, v_seqC, v_lenC, v_listC, v_listRL, w_keys, List.map_cons, List.map_nil, List.cons_append, List.nil_append, List.replicate, List.set_cons_succ, List.set_cons_zero, wipeG, wpS_then, wpS_set, wpS_if, wpS_mret, wpS_retN, wpS_mnext, wpS_mbrk, wpS_mcnt, wpS_exp, wpS_asg, wpS_for, w_c, w_bin, w_un, w_ifE, w_andV, w_orV, w_notV, w_call, w_chain, w_meth, w_meth0, w_sl, w_noPart, w_part, w_nil, w_cons, w_bl, w_tru, w_and, w_or, w_not, w_lcV, w_lcR, w_lc, w_seq, w_rng1, w_rng2, w_var0, w_var1, w_var2, w_var3, w_var4, w_var5, w_var6, w_var7, w_var8, w_var9, w_var10, w_var11, w_var12, w_var13, w_var14, w_var15, w_var16, w_var17, w_var18, w_var19, w_var20, w_dictT, w_dictK, w_gTp, wpS_par, wpS_par3, w_zip, w_enum, w_rev, v_zipL, v_zipT, v_enumL, v_revL, v_revT, w_gsCons, w_gsNil, w_callK, wpR_ok, wpR_sized, v_nm, v_addI, v_addS, v_addT, v_addL, v_sub, v_neg, w_mul, w_div, w_mod, w_pow, v_ordI, v_eqI, v_neI, v_eqS, v_neS, v_lenS, v_lenL, v_lenF, v_lenT, v_truB, v_seqS, v_seqT, v_seqL, v_seqF, v_listT, v_listL, v_tupleL, v_tupleT, v_tupD, v_lstD, v_lstR, v_slT, v_slL, v_slF, w_slS, defD_rt, defD_nx, defD_ex, defD_bk, defD_ct, AV.bl.injEq, AV.int.injEq, Option.some.injEq, exists_eq_left', tyS, if_true, if_false, Bool.false_eq_true, true_and, and_true, $ls,*])
noncomputable def byn_b : SM := mThen (mSet 1 (mDictT)) (mThen (mFor (mSeq (mVar 0)) (gNm 2) (mAsg (gPut (mVar 1) (mBin gIx (mVar 2) (mC (.int 0)))) (mVar 2))) (mRet (mVar 1)))
noncomputable def m_byn : List AV → AH → Res AV := gc (mDef 1 2 byn_b)
noncomputable def joi_b : SM := mThen (mPar 2 3 (mCons (mCall m_byn (mCons (mVar 0) (mNil))) (mCons (mCall m_byn (mCons (mVar 1) (mNil))) (mNil)))) (mThen (mSet 4 (mLstR (mNil))) (mThen (mSet 5 (mDictK)) (mThen (mFor (mSeq (mUn gSortSet (mBin gAdd (mCall gListD (mCons (mVar 2) (mNil))) (mCall gListD (mCons (mVar 3) (mNil)))))) (gNm 6) (mThen (mSet 7 (mIfE (mBl (mBin (gIn false) (mVar 6) (mVar 2))) (mBin gIx (mVar 2) (mVar 6)) (mBin gIx (mVar 3) (mVar 6)))) (mThen (mIf (mAnd (mBl (mBin (gIn false) (mVar 6) (mVar 3))) (mBl (mBin gNe (mBin gIx (mVar 3) (mVar 6)) (mVar 7)))) (mRaise "NoJoin" ["name", "word"] (mCons (mVar 6) (mCons (mC (.str "unlike")) (mNil)))) (mNext)) (mThen (mSet 8 (mIfE (mBl (mBin (gIn false) (mVar 6) (mVar 2))) (mVar 2) (mVar 3))) (mThen (mIf (mAnd (mBl (mBin (gIn false) (mBin gIx (mVar 6) (mC (.int 1))) (mVar 5))) (mBl (mBin (gIn true) (mBin gIx (mVar 5) (mBin gIx (mVar 6) (mC (.int 1)))) (mVar 8)))) (mRaise "NoJoin" ["name", "word"] (mCons (mVar 6) (mCons (mC (.str "branch")) (mNil)))) (mNext)) (mThen (mAsg (gPut (mVar 5) (mBin gIx (mVar 6) (mC (.int 1)))) (mVar 6)) (mExp (mMeth tyL gAppend (mVar 4) (mCons (mVar 7) (mNil)))))))))) (mRet (mCall gTuple (mCons (mVar 4) (mNil)))))))
noncomputable def m_joi : List AV → AH → Res AV := gc (mDef 2 7 joi_b)
theorem getK_setK {κ : Type} [DecidableEq κ] (kvs : List (κ × AV)) (k k' : κ) (v : AV) : getK (setK kvs k v) k' = if k' = k then some v else getK kvs k' := by
  unfold setK
  by_cases h : (kvs.any fun kv => decide (kv.1 = k)) = true
  · rw [if_pos h]
    unfold getK
    rw [List.find?_map]
    have e : ((fun kv : κ × AV => decide (kv.1 = k')) ∘ fun kv => if kv.1 = k then (kv.1, v) else kv) = fun kv => decide (kv.1 = k') := by
      funext kv
      simp only [Function.comp]
      split <;> rfl
    rw [e]
    by_cases q : k' = k
    · subst q
      rw [if_pos rfl]
      obtain ⟨kv, h1, h2⟩ := List.any_eq_true.mp h
      cases e2 : kvs.find? fun kv => decide (kv.1 = k') with
      | none => exact absurd h2 (List.find?_eq_none.mp e2 kv h1)
      | some y =>
        have : y.1 = k' := by simpa using List.find?_some e2
        simp [this]
    · rw [if_neg q]
      cases e2 : kvs.find? fun kv => decide (kv.1 = k') with
      | none => rfl
      | some y =>
        have : y.1 = k' := by simpa using List.find?_some e2
        have hne : ¬ y.1 = k := fun z => q (this.symm.trans z)
        simp [hne]
  · rw [if_neg h]
    unfold getK
    rw [List.find?_append]
    have hn : ∀ kv ∈ kvs, ¬ kv.1 = k := fun kv hk z => h (List.any_eq_true.mpr ⟨kv, hk, decide_eq_true z⟩)
    by_cases q : k' = k
    · subst q
      rw [if_pos rfl]
      have : (kvs.find? fun kv => decide (kv.1 = k')) = none := List.find?_eq_none.mpr fun kv hk => by simpa using hn kv hk
      simp [this]
    · rw [if_neg q]
      have : ¬ k = k' := fun z => q z.symm
      cases kvs.find? fun kv => decide (kv.1 = k') <;> simp [this]
theorem len_setK {κ : Type} [DecidableEq κ] (kvs : List (κ × AV)) (k : κ) (v : AV) : (setK kvs k v).length ≤ kvs.length + 1 := by
  unfold setK
  split
  · rw [List.length_map]; omega
  · simp
def at_ (u : List Rc) (n : Nm) : Option Rc := u.find? fun r => decide (r.nm = n)
abbrev nms (u : List Rc) : List Nm := u.map Rc.nm
theorem at_in {u : List Rc} {n : Nm} (h : n ∈ nms u) : ∃ r, at_ u n = some r ∧ r ∈ u ∧ r.nm = n := find_in (f := Rc.nm) h
theorem at_no {u : List Rc} {n : Nm} (h : n ∉ nms u) : at_ u n = none := find_no (f := Rc.nm) h
def pick (u v : List Rc) (n : Nm) : Rc := ((at_ u n).or (at_ v n)).getD ⟨n, "", [], .non, []⟩
def lastIn (D : List Nm) (b : Str) : Option Nm := D.reverse.find? fun n => decide (n.2 = b)
theorem lastIn_snoc (D : List Nm) (n : Nm) (b : Str) : lastIn (D ++ [n]) b = if b = n.2 then some n else lastIn D b := by
  unfold lastIn
  rw [List.reverse_append, List.reverse_cons, List.reverse_nil, List.nil_append, List.cons_append, List.nil_append, List.find?_cons]
  by_cases h : b = n.2
  · simp [h]
  · have : ¬ n.2 = b := fun z => h z.symm
    simp [h, this]
def unlikeAt (u v : List Rc) (n : Nm) : Bool := match at_ u n, at_ v n with
  | some r, some r' => !aeq (recA r') (recA r)
  | _, _ => false
def partAt (u v : List Rc) (D : List Nm) (n : Nm) : Bool := match lastIn D n.2 with
  | some m => if n ∈ nms u then decide (m ∉ nms u) else decide (m ∉ nms v)
  | none => false
def joinGo (u v : List Rc) : List Nm → List Nm → Option (Nm × Str)
  | _, [] => none
  | D, n :: r => if unlikeAt u v n = true then some (n, "unlike") else if partAt u v D n = true then some (n, "branch") else joinGo u v (D ++ [n]) r
noncomputable def joinN (u v : List Rc) : List Nm := setN (nms u ++ nms v)
noncomputable def joinE (u v : List Rc) : Option (Nm × Str) := joinGo u v [] (joinN u v)
abbrev rcsA (u : List Rc) : AV := .tup (u.map recA)
structure Book (u : List Rc) : Prop where
  nd : (nms u).Nodup
  pl : ∀ r ∈ u, plain 59 (recA r) = true
  len : u.length ≤ 31
theorem Book.p6 {u : List Rc} (h : Book u) {r : Rc} (hr : r ∈ u) : plain 60 (recA r) = true := plain_mono 59 60 _ (by decide) (h.pl r hr)
section
variable {u v : List Rc} {rest : List AV} {M : AH} {P : AV → AH → Prop} {E : Str → List (Str × AV) → AH → Prop}
theorem v_sortset {N : List Nm} (h : N.length < 64) : gSortSet (.lst (N.map nameA)) M = .ok (.lst ((setN N).map nameA)) M := by
  have e : lstR M (.lst (N.map nameA)) = some (N.map nameA) := rfl
  simp only [gSortSet, e, nmsOf_map]
  rw [if_pos h]
theorem f_listDT {i : Nat} {u : List Rc} (h : Fs rest [] M) (hx : rest[i]? = some (.dT (chK u))) : gListD [.ref (i + 1)] M = .ok (.lst ((nms u).map nameA)) M := by
  have h1 : dctT M (.ref (i + 1)) = some (chK u) := f_dctT h hx
  have h2 : lstR M (.ref (i + 1)) = none := f_lstR_T h hx
  have h3 : itemsOf M (.ref (i + 1)) = none := h2
  simp only [gListD, h3, h1, keysT_byN]
theorem d_byn (hM : Fs rest [] M) (hb : Book u) (q : ∀ M', Fs (rest ++ [.dT (chK u)]) [] M' → P (.ref (rest.length + 1)) M') : wpR (m_byn [rcsA u] M) P E := by
  have key : wpR (mDef 1 2 byn_b [rcsA u] M) (fun a M' => a = .ref (rest.length + 1) ∧ Fs (rest ++ [.dT (chK u)]) [] M') fun _ _ _ => False := by
    refine wp_def rfl ?_
    unfold byn_b
    have g0 : ∀ x : AV, (rest ++ [x])[rest.length]? = some x := fun x => by simp
    have gs : ∀ x y : AV, (rest ++ [x]).set rest.length y = rest ++ [y] := fun x y => by simp
    refine wp_seq (fun G M => G = [some (rcsA u), some (.ref (rest.length + 1)), none] ∧ Fs (rest ++ [.dT (chK [])]) [] M) ?_ ?_
    · simp! []
      rw [hM.len]
      exact ⟨rfl, hM.push _⟩
    rintro _ M ⟨rfl, hM⟩
    refine wp_seq (fun G M => (∃ g2, G = [some (rcsA u), some (.ref (rest.length + 1)), g2]) ∧ Fs (rest ++ [.dT (chK u)]) [] M) ?_ ?_
    · rw [wpS_for]
      simp! []
      refine wp_loop (fun j G M => (∃ g2, G = [some (rcsA u), some (.ref (rest.length + 1)), g2]) ∧ Fs (rest ++ [.dT (chK (u.take j))]) [] M) _ 0 _ _ ⟨⟨_, rfl⟩, hM⟩ ?_ ?_
      · rintro j x G M hj ⟨⟨g2, rfl⟩, hF⟩
        rw [Nat.zero_add] at *
        obtain ⟨hj2, hj3⟩ := List.getElem?_eq_some_iff.mp hj
        rw [List.length_map] at hj2
        rw [List.getElem_map] at hj3
        subst hj3
        have et : u.take (j + 1) = u.take j ++ [u[j]] := by
          rw [List.take_add_one, List.getElem?_eq_getElem hj2]
          rfl
        have hn : u[j].nm ∉ (u.take j).map Rc.nm := fun z => by
          have h1 := hb.nd
          have h2 : nms u = (u.take j).map Rc.nm ++ u[j].nm :: (u.drop (j + 1)).map Rc.nm := by
            rw [← List.map_cons, ← List.map_append, ← List.drop_eq_getElem_cons hj2, List.take_append_drop]
          rw [h2, List.nodup_append] at h1
          exact h1.2.2 _ z _ (by simp) rfl
        have hlu := hb.len
        have e0 : ∀ M, gIx (recA u[j]) (.int 0) M = .ok (nameA u[j].nm) M := fun M => wpR_eq (by rw [w_rec0]; exact ⟨rfl, rfl⟩)
        simp! []
        refine f_putT (i := rest.length) (k := nameK u[j].nm) hF (g0 _) (by simp [byN]; omega) rfl (e0 M) (keyT_name _) fun M' h' => ?_
        rw [gs, setK_new (f := Rc.nm) (g := recA) hn] at h'
        rw [et]
        exact ⟨⟨_, rfl⟩, h'⟩
      · rintro G M ⟨hG, hF⟩
        rw [Nat.zero_add, List.length_map, List.take_length] at hF
        exact ⟨hG, hF⟩
    rintro _ M ⟨⟨g2, rfl⟩, hM⟩
    simp! []
    exact hM
  unfold m_byn gc
  cases e : mDef 1 2 byn_b [rcsA u] M with
  | stuck => rw [e] at key; exact key.elim
  | exc c fs M' => rw [e] at key; exact key.elim
  | ok a M' =>
    rw [e] at key
    obtain ⟨rfl, h2⟩ := key
    have hml := hM.len
    have hfin : fin M.objs.length M' (.ref (rest.length + 1)) = .ref (rest.length + 1) := by
      show (if rest.length + 1 < M.objs.length then AV.ref (rest.length + 1) else (match M'.objs[rest.length + 1]? with
        | some (.lst xs) => .lst xs
        | _ => .ref (rest.length + 1))) = _
      rw [if_neg (by omega), h2.get]
      simp
    have hncl : cl M.objs.length (.ref (rest.length + 1)) = false := by
      show decide (rest.length + 1 < M.objs.length) = false
      exact decide_eq_false (by omega)
    simp only
    rw [hfin, if_neg (fun z => by rw [hncl] at z; exact Bool.false_ne_true z.2), wpR_ok]
    exact q M' h2
abbrev R4 (rest : List AV) (u v : List Rc) (xs : List AV) (kvs : List (Key × AV)) : List AV := rest ++ [.dT (chK u), .dT (chK v), .lst xs, .dK kvs]
theorem r4_0 (xs : List AV) (kvs : List (Key × AV)) : (R4 rest u v xs kvs)[rest.length]? = some (.dT (chK u)) := by simp
theorem r4_1 (xs : List AV) (kvs : List (Key × AV)) : (R4 rest u v xs kvs)[rest.length + 1]? = some (.dT (chK v)) := by simp [List.getElem?_append]
theorem r4_2 (xs : List AV) (kvs : List (Key × AV)) : (R4 rest u v xs kvs)[rest.length + 2]? = some (.lst xs) := by simp [List.getElem?_append]
theorem r4_3 (xs : List AV) (kvs : List (Key × AV)) : (R4 rest u v xs kvs)[rest.length + 3]? = some (.dK kvs) := by simp [List.getElem?_append]
theorem r4_s2 (xs ys : List AV) (kvs : List (Key × AV)) : (R4 rest u v xs kvs).set (rest.length + 2) (.lst ys) = R4 rest u v ys kvs := by simp
theorem r4_s3 (xs : List AV) (kvs kvs' : List (Key × AV)) : (R4 rest u v xs kvs).set (rest.length + 3) (.dK kvs') = R4 rest u v xs kvs' := by simp
theorem f_inCh {i : Nat} {u : List Rc} {n : Nm} {neg : Bool} (h : Fs rest [] M) (hx : rest[i]? = some (.dT (chK u))) : gIn neg (nameA n) (.ref (i + 1)) M = .ok (.bl (if neg then !decide (n ∈ nms u) else decide (n ∈ nms u))) M := by
  rw [f_inT h hx (keyT_name n), getK_isSome]
theorem f_atCh {i : Nat} {u : List Rc} {n : Nm} {r : Rc} (h : Fs rest [] M) (hx : rest[i]? = some (.dT (chK u))) (hr : at_ u n = some r) : gIx (.ref (i + 1)) (nameA n) M = .ok (recA r) M :=
  f_ixT h hx (keyT_name n) (by rw [getK_byN]; unfold at_ at hr; rw [hr]; rfl)
theorem plainAll_of : ∀ {xs : List PyData}, (∀ x ∈ xs, x.plain = true) → PyData.plainAll xs = true
  | [], _ => rfl
  | x :: r, h => by
    rw [PyData.plainAll, h x List.mem_cons_self, plainAll_of fun y hy => h y (List.mem_cons_of_mem _ hy)]
    rfl
theorem pdl_plain : ∀ (n : Nat) (d : PyData), pdl n d = true → d.plain = true
  | n, .none, _ => rfl
  | n, .bool _, _ => rfl
  | n, .int _, _ => rfl
  | n, .str _, _ => rfl
  | 0, .tuple _, h => by cases h
  | 0, .list _, h => by cases h
  | n + 1, .tuple xs, h => by
    have h : xs.all (pdl n) = true := h
    rw [PyData.plain]
    exact plainAll_of fun x hx => pdl_plain n x (List.all_eq_true.mp h x hx)
  | n + 1, .list xs, h => by
    have h : xs.all (pdl n) = true := h
    rw [PyData.plain]
    exact plainAll_of fun x hx => pdl_plain n x (List.all_eq_true.mp h x hx)
  | n, .dict _, h => by cases n <;> cases h
theorem aeq_refl {a : AV} (h : plain 60 a = true) : aeq a a = true := PySem.SeqAt.eqv_refl_plain _ (pdl_plain 60 _ (pdl_of 60 a h))
theorem v_neP {a b : AV} (h1 : plain 60 a = true) (h2 : plain 60 b = true) (t1 : top M a = a) (t2 : top M b = b) : gNe a b M = .ok (.bl (!aeq a b)) M := by
  simp only [gNe, t1, t2, h1, h2, Bool.and_self, if_true]
theorem w_name1 {n : Nm} : wpR (gIx (nameA n) (.int 1) M) P E = P (.str n.2) M := by
  show wpR (gIx (.tup [.int n.1, .str n.2]) (.int 1) M) P E = _
  rw [w_ixT, show atI [AV.int n.1, .str n.2] 1 = some (.str n.2) from rfl]
  simp
theorem d_joi (hM : Fs rest [] M) (hu : Book u) (hv : Book v)
    (q1 : joinE u v = none → ∀ M', Fs rest [] M' → P (rcsA ((joinN u v).map (pick u v))) M') (q2 : ∀ n s, joinE u v = some (n, s) → ∀ M', Fs rest [] M' → E "NoJoin" [("word", .str s), ("name", nameA n)] M') : wpR (m_joi [rcsA u, rcsA v] M) P E := by
  refine wp_gcE hM ?_
  refine wp_def rfl ?_
  unfold joi_b
  have lu := hu.len
  have lv := hv.len
  have fail : ∀ n s M' t, joinE u v = some (n, s) → Fs (rest ++ t) [] M' → ([(("word" : Str), AV.str s), ("name", nameA n)].all fun p => plain 60 p.2) = true ∧ (∃ tmp, Fs (rest ++ tmp) [] M') ∧ ∀ M'', Fs rest [] M'' → E "NoJoin" [("word", .str s), ("name", nameA n)] M'' := fun n s M' t e hF => ⟨rfl, ⟨t, hF⟩, q2 n s e⟩
  refine wp_seq (fun G M => G = [some (rcsA u), some (rcsA v), some (.ref (rest.length + 1)), some (.ref (rest.length + 2)), none, none, none, none, none] ∧ Fs (rest ++ [.dT (chK u)] ++ [.dT (chK v)]) [] M) ?_ ?_
  · simp! []
    refine d_byn hM hu fun M1 h1 => ?_
    simp! []
    refine d_byn h1 hv fun M2 h2 => ?_
    rw [List.length_append]
    exact ⟨rfl, h2⟩
  rintro _ M ⟨rfl, hM⟩
  refine wp_seq (fun G M => G = [some (rcsA u), some (rcsA v), some (.ref (rest.length + 1)), some (.ref (rest.length + 2)), some (.ref (rest.length + 3)), none, none, none, none] ∧ Fs (rest ++ [.dT (chK u)] ++ [.dT (chK v)] ++ [.lst []]) [] M) ?_ ?_
  · simp! []
    rw [hM.len]
    refine ⟨by simp, ?_, hM.push _⟩
    simp
  rintro _ M ⟨rfl, hM⟩
  refine wp_seq (fun G M => G = [some (rcsA u), some (rcsA v), some (.ref (rest.length + 1)), some (.ref (rest.length + 2)), some (.ref (rest.length + 3)), some (.ref (rest.length + 4)), none, none, none] ∧ Fs (R4 rest u v [] []) [] M) ?_ ?_
  · simp! []
    rw [hM.len]
    have := hM.push (.dK [])
    simp only [List.append_assoc, List.cons_append, List.nil_append] at this
    refine ⟨?_, this⟩
    simp
  rintro _ M ⟨rfl, hM⟩
  have hlN : (nms u ++ nms v).length < 64 := by simp; omega
  have hall : ∀ n ∈ joinN u v, n ∈ nms u ∨ n ∈ nms v := fun n hn => List.mem_append.mp (mem_setN.mp hn)
  have hln : (joinN u v).length ≤ 62 := by
    have := nd_len (joinN u v) (nms u ++ nms v) (nd_setN _) fun n hn => mem_setN.mp hn
    simp at this
    omega
  refine wp_seq (fun G M => joinE u v = none ∧ ∃ kvs g6 g7 g8, G = [some (rcsA u), some (rcsA v), some (.ref (rest.length + 1)), some (.ref (rest.length + 2)), some (.ref (rest.length + 3)), some (.ref (rest.length + 4)), g6, g7, g8] ∧ Fs (R4 rest u v (((joinN u v).map (pick u v)).map recA) kvs) [] M) ?_ ?_
  · rw [wpS_for]
    have l1 := f_listDT (i := rest.length) hM (r4_0 _ _)
    have l2 := f_listDT (i := rest.length + 1) hM (r4_1 _ _)
    have l3 := v_sortset (M := M) hlN
    rw [List.map_append] at l3
    simp! [l1, l2, w_un]
    refine ⟨by simp; omega, ?_⟩
    rw [l3]
    simp! []
    have hJ : setN (nms u ++ nms v) = joinN u v := rfl
    rw [hJ]
    refine wp_loop (fun k G M => joinE u v = joinGo u v ((joinN u v).take k) ((joinN u v).drop k) ∧ ∃ kvs g6 g7 g8, G = [some (rcsA u), some (rcsA v), some (.ref (rest.length + 1)), some (.ref (rest.length + 2)), some (.ref (rest.length + 3)), some (.ref (rest.length + 4)), g6, g7, g8] ∧ kvs.length ≤ k ∧ (∀ b, getK kvs (.inr b) = (lastIn ((joinN u v).take k) b).map nameA) ∧ Fs (R4 rest u v ((((joinN u v).take k).map (pick u v)).map recA) kvs) [] M) _ 0 _ _ ⟨rfl, [], _, _, _, rfl, Nat.le_refl _, fun b => rfl, hM⟩ ?_ ?_
    · rintro j x G M hj ⟨hgo, kvs, g6, g7, g8, rfl, hkl, hlast, hF⟩
      rw [Nat.zero_add] at *
      obtain ⟨hj2, hj3⟩ := List.getElem?_eq_some_iff.mp hj
      rw [List.length_map] at hj2
      rw [List.getElem_map] at hj3
      subst hj3
      have hnm := List.getElem_mem hj2
      have et : (joinN u v).take (j + 1) = (joinN u v).take j ++ [(joinN u v)[j]] := by
        rw [List.take_add_one, List.getElem?_eq_getElem hj2]
        rfl
      rw [List.drop_eq_getElem_cons hj2] at hgo
      rw [et]
      have htl : ((joinN u v).take j).length ≤ 62 := by rw [List.length_take]; omega
      generalize (joinN u v).drop (j + 1) = Rs at *
      generalize (joinN u v).take j = D at *
      generalize (joinN u v)[j] = n at *
      have hr := hall n hnm
      obtain ⟨r, hpk, hpl, hat⟩ : ∃ r, pick u v n = r ∧ plain 60 (recA r) = true ∧ (at_ u n = some r ∨ (at_ u n = none ∧ at_ v n = some r)) := by
        by_cases h : n ∈ nms u
        · obtain ⟨r, e, hm, _⟩ := at_in h
          exact ⟨r, by simp [pick, e], hu.p6 hm, .inl e⟩
        · obtain ⟨r, e, hm, _⟩ := at_in (hr.resolve_left h)
          exact ⟨r, by simp [pick, at_no h, e], hv.p6 hm, .inr ⟨at_no h, e⟩⟩
      have in0 : ∀ neg M, Fs (R4 rest u v ((D.map (pick u v)).map recA) kvs) [] M → ∀ m : Nm, gIn neg (nameA m) (.ref (rest.length + 1)) M = .ok (.bl (if neg then !decide (m ∈ nms u) else decide (m ∈ nms u))) M := fun neg M hF m => f_inCh (i := rest.length) hF (r4_0 _ _)
      have in1 : ∀ neg M, Fs (R4 rest u v ((D.map (pick u v)).map recA) kvs) [] M → ∀ m : Nm, gIn neg (nameA m) (.ref (rest.length + 2)) M = .ok (.bl (if neg then !decide (m ∈ nms v) else decide (m ∈ nms v))) M := fun neg M hF m => f_inCh (i := rest.length + 1) hF (r4_1 _ _)
      have a1 : ∀ r', at_ v n = some r' → gIx (.ref (rest.length + 2)) (nameA n) M = .ok (recA r') M := fun r' e => f_atCh (i := rest.length + 1) hF (r4_1 _ _) e
      have a0 : ∀ r', at_ u n = some r' → gIx (.ref (rest.length + 1)) (nameA n) M = .ok (recA r') M := fun r' e => f_atCh (i := rest.length) hF (r4_0 _ _) e
      refine wp_seq (fun G M' => G = [some (rcsA u), some (rcsA v), some (.ref (rest.length + 1)), some (.ref (rest.length + 2)), some (.ref (rest.length + 3)), some (.ref (rest.length + 4)), some (nameA n), some (recA r), g8] ∧ M' = M) ?_ ?_
      · simp! [in0 _ M hF]
        by_cases h : n ∈ nms u
        · rw [if_pos (decide_eq_true h)]
          rcases hat with e | ⟨e, _⟩
          · simp! [a0 r e]
          · obtain ⟨r', e', _⟩ := at_in h
            rw [e] at e'
            cases e'
        · rw [if_neg (by simpa using h)]
          rcases hat with e | ⟨_, e⟩
          · rw [at_no h] at e
            cases e
          · simp! [a1 r e]
      rintro _ M ⟨rfl, rfl⟩
      have ju : joinGo u v D (n :: Rs) = if unlikeAt u v n = true then some (n, ("unlike" : Str)) else if partAt u v D n = true then some (n, ("branch" : Str)) else joinGo u v (D ++ [n]) Rs := rfl
      rw [ju] at hgo
      refine wp_seq (fun G M' => unlikeAt u v n = false ∧ G = [some (rcsA u), some (rcsA v), some (.ref (rest.length + 1)), some (.ref (rest.length + 2)), some (.ref (rest.length + 3)), some (.ref (rest.length + 4)), some (nameA n), some (recA r), g8] ∧ M' = M) ?_ ?_
      · simp! [in1 _ M hF]
        by_cases h : n ∈ nms v
        · obtain ⟨r', e', hm', _⟩ := at_in h
          have hpl' := hv.p6 hm'
          rw [if_pos (decide_eq_true h)]
          have ne := v_neP (M := M) hpl' hpl rfl rfl
          simp! [a1 r' e', ne]
          have hun : unlikeAt u v n = !aeq (recA r') (recA r) := by
            rcases hat with e | ⟨e, e2⟩
            · simp [unlikeAt, e, e']
            · rw [e'] at e2
              cases e2
              simp [unlikeAt, e, aeq_refl hpl]
          rw [hun]
          by_cases hq : (!aeq (recA r') (recA r)) = true
          · rw [if_pos hq, w_raise]
            rw [hun, if_pos hq] at hgo
            simp! []
            refine ⟨by simp, fail n "unlike" M _ hgo hF⟩
          · rw [if_neg hq]
            simp! []
            first | exact ⟨by simpa using hq, rfl, rfl⟩ | exact ⟨by simpa using hq, rfl⟩ | exact by simpa using hq
        · rw [if_neg (by simpa using h)]
          simp! []
          have hun : unlikeAt u v n = false := by
            unfold unlikeAt
            rw [at_no h]
            cases at_ u n <;> rfl
          first | exact ⟨hun, rfl, rfl⟩ | exact ⟨hun, rfl⟩ | exact hun
      rintro _ M ⟨hun, rfl, rfl⟩
      rw [hun] at hgo
      refine wp_seq (fun G M' => G = [some (rcsA u), some (rcsA v), some (.ref (rest.length + 1)), some (.ref (rest.length + 2)), some (.ref (rest.length + 3)), some (.ref (rest.length + 4)), some (nameA n), some (recA r), some (if n ∈ nms u then .ref (rest.length + 1) else .ref (rest.length + 2))] ∧ M' = M) ?_ ?_
      · simp! [in0 _ M hF]
        by_cases h : n ∈ nms u
        · rw [if_pos (decide_eq_true h), if_pos h]
          simp! []
        · rw [if_neg (by simpa using h), if_neg h]
          simp! []
      rintro _ M ⟨rfl, rfl⟩
      have ink : ∀ b : Str, gIn false (.str b) (.ref (rest.length + 3 + 1)) M = .ok (.bl (if false then !(getK kvs (.inr b)).isSome else (getK kvs (.inr b)).isSome)) M := fun b => f_inK (i := rest.length + 3) hF (r4_3 _ _) rfl
      refine wp_seq (fun G M2 => partAt u v D n = false ∧ G = [some (rcsA u), some (rcsA v), some (.ref (rest.length + 1)), some (.ref (rest.length + 2)), some (.ref (rest.length + 3)), some (.ref (rest.length + 4)), some (nameA n), some (recA r), some (if n ∈ nms u then .ref (rest.length + 1) else .ref (rest.length + 2))] ∧ M2 = M) ?_ ?_
      · simp! [w_name1, ink]
        rw [hlast n.2]
        cases el : lastIn D n.2 with
        | none =>
          simp only [Option.map_none, Option.isSome_none]
          rw [if_neg (by simp)]
          simp! []
          have hp : partAt u v D n = false := by unfold partAt; rw [el]
          first | exact ⟨hp, rfl, rfl⟩ | exact ⟨hp, rfl⟩ | exact hp
        | some m =>
          simp only [Option.map_some, Option.isSome_some]
          rw [if_pos True.intro]
          have ixl : gIx (.ref (rest.length + 4)) (.str n.2) M = .ok (nameA m) M := f_ixK (i := rest.length + 3) hF (r4_3 _ _) rfl (by rw [hlast, el]; rfl)
          have hinm : gIn true (nameA m) (if n ∈ nms u then .ref (rest.length + 1) else .ref (rest.length + 2)) M = .ok (.bl (partAt u v D n)) M := by
            unfold partAt
            rw [el]
            by_cases h : n ∈ nms u
            · rw [if_pos h, in0 _ M hF]
              show Res.ok (AV.bl (!decide (m ∈ nms u))) M = .ok (.bl (if n ∈ nms u then decide (m ∉ nms u) else decide (m ∉ nms v))) M
              rw [if_pos h, decide_not]
            · rw [if_neg h, in1 _ M hF]
              show Res.ok (AV.bl (!decide (m ∈ nms v))) M = .ok (.bl (if n ∈ nms u then decide (m ∉ nms u) else decide (m ∉ nms v))) M
              rw [if_neg h, decide_not]
          simp! [w_name1, ixl, hinm]
          by_cases hq : partAt u v D n = true
          · rw [if_pos hq, w_raise]
            rw [if_neg (by decide), if_pos hq] at hgo
            simp! []
            refine ⟨by simp, fail n "branch" M _ hgo hF⟩
          · rw [if_neg hq]
            simp! []
            first | exact ⟨by simpa using hq, rfl, rfl⟩ | exact ⟨by simpa using hq, rfl⟩ | exact by simpa using hq
      rintro _ M ⟨hpt, rfl, rfl⟩
      rw [hpt, if_neg (by decide), if_neg (by decide)] at hgo
      have k1 : ∀ {G M}, wpR (mBin gIx (mVar 6) (mC (.int 1)) (some (rcsA u) :: some (rcsA v) :: some (.ref (rest.length + 1)) :: some (.ref (rest.length + 2)) :: some (.ref (rest.length + 3)) :: some (.ref (rest.length + 4)) :: some (nameA n) :: G) M) (fun a M2 => a = .str n.2 ∧ M2 = M) fun _ _ _ => False := by
        intro G M
        simp! [w_name1]
      simp! []
      refine f_putK (i := rest.length + 3) (k := .inr n.2) hF (r4_3 _ _) (by omega) rfl (wpR_eq k1) rfl fun M2 h2 => ?_
      rw [r4_s3] at h2
      simp! []
      refine ⟨f_tyL (i := rest.length + 2) h2 (r4_2 _ _), ?_⟩
      refine f_append (i := rest.length + 2) h2 (r4_2 _ _) (by rw [List.length_map, List.length_map]; omega) fun M3 h3 => ?_
      rw [r4_s2] at h3
      refine ⟨hgo, setK kvs (.inr n.2) (nameA n), _, _, _, rfl, Nat.le_trans (len_setK kvs (.inr n.2) (nameA n)) (by omega), fun b => ?_, ?_⟩
      · rw [getK_setK, lastIn_snoc, hlast]
        by_cases e : b = n.2
        · rw [if_pos (by rw [e]), if_pos e]
          rfl
        · rw [if_neg (by simpa using e), if_neg e]
      · simpa [hpk] using h3
    · rintro G M ⟨hgo, kvs, g6, g7, g8, rfl, _, _, hF⟩
      rw [Nat.zero_add, List.length_map, List.drop_length, List.take_length] at hgo
      rw [Nat.zero_add, List.length_map, List.take_length] at hF
      exact ⟨hgo, kvs, _, _, _, rfl, hF⟩
  rintro _ M ⟨hE, kvs, g6, g7, g8, rfl, hM⟩
  simp! [f_tuple (i := rest.length + 2) hM (r4_2 _ _)]
  refine ⟨?_, hM.tmp, q1 hE⟩
  show ((((joinN u v).map (pick u v)).map recA).all (plain 59)) = true
  simp only [List.all_map, List.all_eq_true, Function.comp]
  intro n hn
  have hr := hall n hn
  by_cases h : n ∈ nms u
  · obtain ⟨r, e, hm, _⟩ := at_in h
    have e2 : pick u v n = r := by simp [pick, e]
    rw [e2]
    exact hu.pl r hm
  · obtain ⟨r, e, hm, _⟩ := at_in (hr.resolve_left h)
    have e2 : pick u v n = r := by simp [pick, at_no h, e]
    rw [e2]
    exact hv.pl r hm
end
end Px


namespace Px
open PySem hiding Env plain
open L2 Mx StrLaws
local macro_rules | `(tactic| simp! [$ls,*]) => `(tactic| try simp -implicitDefEqProofs only [w_enumT, v_enumC, v_enumT, v_seqC, v_lenC, v_listC, v_listRL, w_keys, List.map_cons, List.map_nil, List.cons_append, List.nil_append, List.replicate, List.set_cons_succ, List.set_cons_zero, wipeG, wpS_then, wpS_set, wpS_if, wpS_mret, wpS_retN, wpS_mnext, wpS_mbrk, wpS_mcnt, wpS_exp, wpS_asg, wpS_for, w_c, w_bin, w_un, w_ifE, w_andV, w_orV, w_notV, w_call, w_chain, w_meth, w_meth0, w_sl, w_noPart, w_part, w_nil, w_cons, w_bl, w_tru, w_and, w_or, w_not, w_lcV, w_lcR, w_lc, w_seq, w_rng1, w_rng2, w_var0, w_var1, w_var2, w_var3, w_var4, w_var5, w_var6, w_var7, w_var8, w_var9, w_var10, w_var11, w_var12, w_var13, w_var14, w_var15, w_var16, w_var17, w_var18, w_var19, w_var20, w_dictT, w_dictK, w_gTp, wpS_par, wpS_par3, w_zip, w_enum, w_rev, v_zipL, v_zipT, v_enumL, v_revL, v_revT, w_gsCons, w_gsNil, w_callK, wpR_ok, wpR_sized, v_nm, v_addI, v_addS, v_addT, v_addL, v_sub, v_neg, w_mul, w_div, w_mod, w_pow, v_ordI, v_eqI, v_neI, v_eqS, v_neS, v_lenS, v_lenL, v_lenF, v_lenT, v_truB, v_seqS, v_seqT, v_seqL, v_seqF, v_listT, v_listL, v_tupleL, v_tupleT, v_tupD, v_lstD, v_lstR, v_slT, v_slL, v_slF, w_slS, defD_rt, defD_nx, defD_ex, defD_bk, defD_ct, AV.bl.injEq, AV.int.injEq, Option.some.injEq, exists_eq_left', tyS, if_true, if_false, Bool.false_eq_true, true_and, and_true, $ls,*])
noncomputable def knn_b : SM := mThen (mSet 2 (mCall m_spr (mCons (mVar 0) (mCons (mBin gIx (mCall m_chof (mCons (mVar 0) (mCons (mVar 1) (mNil)))) (mC (.int 2))) (mNil))))) (mRet (mCall gTuple (mCons (mLcV (mLc [3] (mSeq (mVar 0)) (gNm 3) (mBl (mBin (gIn false) (mBin gIx (mVar 3) (mC (.int 0))) (mVar 2))) (mVar 3))) (mNil))))
noncomputable def m_knn : List AV → AH → Res AV := gc (mDef 2 2 knn_b)
noncomputable def tps_b : SM := mThen (mSet 1 (mDictT)) (mThen (mFor (mSeq (mVar 0)) (gTp 4 (gsCons (gNm 2) (gsCons (gNm 3) (gsCons (gNm 4) (gsCons (gNm 5) (gsNil)))))) (mFor (mSeq (mVar 4)) (gNm 6) (mAsg (gPut (mVar 1) (mVar 6)) (mC (.bl true))))) (mRet (mCall gTuple (mCons (mLcV (mLc [7] (mSeq (mVar 0)) (gNm 7) (mBl (mBin (gIn true) (mBin gIx (mVar 7) (mC (.int 0))) (mVar 1))) (mBin gIx (mVar 7) (mC (.int 0))))) (mNil)))))
noncomputable def m_tps : List AV → AH → Res AV := gc (mDef 1 7 tps_b)
section
variable {w : List Rc} {l : List (Str × Nm)} {h : List Nm} {tmp rest : List AV} {M : AH} {P : AV → AH → Prop} {E : Str → List (Str × AV) → AH → Prop}
theorem v_inNC (neg : Bool) (n : Nm) (L : List Nm) {M : AH} : gIn neg (nameA n) (.tuc (L.map nameA)) M = .ok (.bl (if neg then !decide (n ∈ L) else decide (n ∈ L))) M := by
  have h1 : (L.map nameA).all (plain 60) = true := by
    simp only [List.all_map, List.all_eq_true]
    exact fun n _ => plain_name n
  have h2 : ((L.map nameA).any fun z => aeq z (nameA n)) = decide (n ∈ L) := by
    rw [Bool.eq_iff_iff]
    simp only [List.any_map, List.any_eq_true, Function.comp, aeq_name, decide_eq_true_eq]
    exact ⟨fun ⟨x, hx, e⟩ => e ▸ hx, fun h => ⟨n, h, rfl⟩⟩
  have h3 : inA M (nameA n) (.tuc (L.map nameA)) = some (decide (n ∈ L)) := by
    show (if plain 60 (nameA n) && (L.map nameA).all (plain 60) then some ((L.map nameA).any fun z => aeq z (nameA n)) else none) = _
    rw [plain_name, h1, h2]
    rfl
  unfold gIn
  rw [h3]
theorem d_tops {L : List Nm} (hM : Fs rest [] M) (hw : WOk w) (hl : w.length ≤ 20) (hc : Closed w L) (hL : L.length ≤ 20)
    (q : ∀ M', Fs rest [] M' → P (.tup ((L.filter fun n => decide (∀ c ∈ L, n ∉ knowsW w c)).map nameA)) M') : wpR (m_tps [ledA w L] M) P E := by
  refine wp_gcF hM ?_
  refine wp_def rfl ?_
  unfold tps_b ledA
  have hbw : ∀ n ∈ L, ∀ x ∈ (recOf w n).base, x ∈ namesW w := fun n hn x hx => by
    rw [hw.base n (hc n hn).1] at hx
    exact ((hw.trans n (hc n hn).1).1 x (List.mem_filter.mp hx).1).1
  refine wp_seq (fun G M => G = [some (ledA w L), some (.ref (rest.length + 1)), none, none, none, none, none, none] ∧ Fs (rest ++ [.dT (trueK [])]) [] M) ?_ ?_
  · simp! []
    rw [hM.len]
    exact ⟨rfl, hM.push _⟩
  rintro _ M ⟨rfl, hM⟩
  refine wp_seq (fun G M => (∃ g2 g3 g4 g5 g6, G = [some (ledA w L), some (.ref (rest.length + 1)), g2, g3, g4, g5, g6, none]) ∧ Fs (rest ++ [.dT (trueK (addAll (fun n => (recOf w n).base) [] L))]) [] M) ?_ ?_
  · rw [wpS_for]
    simp! [ledA]
    refine wp_fold (S := ⟨_, none⟩) (fun n => recA (recOf w n)) (fun acc n => insAll acc (recOf w n).base) (fun s G M => (∃ g2 g3 g4 g5 g6, G = [some (ledA w L), some (.ref (rest.length + 1)), g2, g3, g4, g5, g6, none]) ∧ Fs (rest ++ [.dT (trueK s)]) [] M ∧ s.Nodup ∧ ∀ x ∈ s, x ∈ namesW w) (fun _ _ _ _ => trivial) L [] _ _ ⟨⟨_, _, _, _, _, rfl⟩, hM, by simp, by simp⟩ ?_ ?_
    · rintro s n G M hn ⟨⟨g2, g3, g4, g5, g6, rfl⟩, hF, hnd, hsb⟩
      simp! [recA]
      refine ⟨rfl, ?_⟩
      refine d_wanted (w := w) (iv := rest.length) (n := n) (s := s) (xs := (recOf w n).base) rfl hF (by simp) hnd hsb (hbw n hn) hl 6 (by simp) (fun v M => rfl) fun M' h' v => ?_
      refine ⟨⟨_, _, _, _, _, rfl⟩, ?_, nd_insAll hnd, fun x hx => ?_⟩
      · simpa using h'
      · rcases mem_insAll.mp hx with z | z
        · exact hsb x z
        · exact hbw n hn x z
    · rintro G M ⟨hG, hF, _, _⟩
      exact ⟨hG, hF⟩
  rintro _ M ⟨⟨g2, g3, g4, g5, g6, rfl⟩, hM⟩
  have hbe : ∀ x, (!decide (x ∈ addAll (fun n => (recOf w n).base) [] L)) = decide (∀ c ∈ L, x ∉ knowsW w c) := fun x => by
    rw [← decide_not]
    apply decide_eq_decide.mpr
    rw [mem_addAll]
    have := base_knows hw hc x
    constructor
    · rintro z c hcL hx
      exact z (.inr (this.mpr ⟨c, hcL, hx⟩))
    · rintro z (hx | hx)
      · cases hx
      · obtain ⟨c, hcL, hx⟩ := this.mp hx
        exact z c hcL hx
  generalize addAll (fun n => (recOf w n).base) [] L = be at hbe hM
  simp! [ledA]
  have hlc := lcl_map (l0 := L.map fun n => recA (recOf w n)) (t := gNm 7) (c := mBl (mBin (gIn true) (mBin gIx (mVar 7) (mC (.int 0))) (mVar 1))) (el := mBin gIx (mVar 7) (mC (.int 0))) (G := [some (ledA w L), some (.ref (rest.length + 1)), g2, g3, g4, g5, g6, none]) (M := M) (fun n => recA (recOf w n)) (fun n => decide (∀ c ∈ L, n ∉ knowsW w c)) nameA L [] (by simp; omega) fun n hn => by
    have e0 : atI [nameA (recOf w n).nm, AV.str (recOf w n).hand, .tup ((recOf w n).base.map nameA), (recOf w n).deed] 0 = some (nameA n) := by
      rw [recOf_nm]
      rfl
    have hin : gIn true (nameA n) (.ref (rest.length + 1)) M = .ok (.bl (if true then !(getK (trueK be) (nameK n)).isSome else (getK (trueK be) (nameK n)).isSome)) M := f_inT (i := rest.length) hM (by simp) (keyT_name n)
    rw [if_pos rfl, getK_isSome, List.map_id, hbe] at hin
    refine ⟨_, rfl, wpR_eq ?_, fun _ => wpR_eq ?_⟩
    · simp! [recA, w_ixT, e0]
      simp only [Option.some.injEq, exists_eq_left', hin, wpR_ok]
      simp
    · simp! [recA, w_ixT, e0]
      try simp
  rw [List.nil_append] at hlc
  unfold ledA at hlc
  rw [hlc]
  simp! []
  refine ⟨?_, hM.tmp, fun M' h' => q M' h'⟩
  simp only [plain, List.all_map, List.all_eq_true]
  exact fun n _ => rfl
def good (w : List Rc) (ns : List Nm) (n : Nm) : Bool := decide (n ∉ ns) && (knowsW w n).all fun m => decide (m ∉ ns)
theorem led_len {L : List Nm} (hc : Closed w L) (hnd : L.Nodup) (hl : w.length ≤ 20) : L.length ≤ 20 := by
  have := nd_len L (namesW w) hnd fun n hn => (hc n hn).1
  rw [namesW, List.length_map] at this
  omega
theorem plain_led (hw : WOk w) (hl : w.length ≤ 20) {L : List Nm} (hL : ∀ n ∈ L, n ∈ namesW w) (hn : L.length ≤ 20) : plain 60 (ledA w L) = true := plain_mono 4 60 _ (by decide) (sh_led hw hl hL hn).pl
theorem d_known {L : List Nm} {n : Nm} (hM : Fs rest [] M) (hw : WOk w) (hl : w.length ≤ 20) (hc : Closed w L) (hnd : L.Nodup) (hs : L.Pairwise fun a b => a.1 ≤ b.1)
    (q : n ∈ L → ∀ M', Fs rest [] M' → P (ledA w (L.filter fun m => decide (m ∈ knowsW w n))) M') (q1 : n ∉ L → ∀ M', Fs rest [] M' → E "NoName" [("name", nameA n)] M') : wpR (m_knn [ledA w L, nameA n] M) P E := by
  have hL : ∀ x ∈ L, x ∈ namesW w := fun x hx => (hc x hx).1
  have hLl := led_len hc hnd hl
  refine wp_gcE hM ?_
  refine wp_def rfl ?_
  unfold knn_b
  refine wp_seq (fun G M => n ∈ L ∧ G = [some (ledA w L), some (nameA n), some (.ref (rest.length + 1)), none] ∧ ∃ s, (∀ x, x ∈ s ↔ x ∈ knowsW w n) ∧ Fs (rest ++ [.dT (trueK s)]) [] M) ?_ ?_
  · simp! []
    refine d_chof hM hw hL (fun h M1 h1 => ?_) fun h M1 h1 => ⟨by simp [plain_name], h1.ofT, q1 h⟩
    have hbL : ∀ b ∈ (recOf w n).base, b ∈ L := fun b hb => (hc n h).2 b (base_sub hw (hL n h) hb)
    simp! [w_rec2]
    refine d_spr h1 hw hl hc hs hbL fun s M1 hsx h2 => ?_
    refine ⟨h, rfl, s, fun x => ?_, h2⟩
    rw [hsx]
    constructor
    · rintro (z | ⟨m, hm, hk⟩)
      · exact base_sub hw (hL n h) z
      · exact ((hw.trans n (hL n h)).1 m (base_sub hw (hL n h) hm)).2.2 x hk
    · intro z
      obtain ⟨b, hb, e | e⟩ := base_cover hw (hL n h) z
      · exact .inl (e ▸ hb)
      · exact .inr ⟨b, hb, e⟩
  rintro _ M ⟨hn, rfl, s, hsx, hM⟩
  have hlc := lcl_map (l0 := L.map fun n => recA (recOf w n)) (t := gNm 3) (c := mBl (mBin (gIn false) (mBin gIx (mVar 3) (mC (.int 0))) (mVar 2))) (el := mVar 3) (G := [some (ledA w L), some (nameA n), some (.ref (rest.length + 1)), none]) (M := M) (fun n => recA (recOf w n)) (fun m => decide (m ∈ knowsW w n)) (fun n => recA (recOf w n)) L [] (by simp; omega) fun m hm => by
    have hin : gIn false (nameA m) (.ref (rest.length + 1)) M = .ok (.bl (if false then !(getK (trueK s) (nameK m)).isSome else (getK (trueK s) (nameK m)).isSome)) M := f_inT (i := rest.length) hM (by simp) (keyT_name m)
    have e9 : decide (m ∈ s) = decide (m ∈ knowsW w n) := decide_eq_decide.mpr (hsx m)
    rw [if_neg (by decide), getK_isSome, List.map_id, e9] at hin
    refine ⟨_, rfl, wpR_eq ?_, fun _ => rfl⟩
    simp! [w_rec0, recOf_nm, hin]
    try simp
  rw [List.nil_append] at hlc
  simp! [v_seqLed]
  rw [hlc]
  simp! [v_tupLed]
  refine ⟨plain_led hw hl (fun x hx => hL x (List.mem_filter.mp hx).1) (Nat.le_trans (List.length_filter_le _ _) hLl), hM.tmp, q hn⟩
abbrev R3 (rest : List AV) (v : List Rc) (xs : List AV) (has : List Nm) : List AV := rest ++ [.dT (chK v), .lst xs, .dT (trueK has)]
end
end Px

namespace Px
open PySem hiding Env plain
open L2 Mx StrLaws
section
variable {w : List Rc} {l : List (Str × Nm)} {h : List Nm} {tmp rest : List AV} {M : AH} {P : AV → AH → Prop} {E : Str → List (Str × AV) → AH → Prop}
theorem all_closed (hw : WOk w) : Closed w (allN w) := fun x hx => ⟨mem_allN.mp hx, fun y hy => mem_allN.mpr ((hw.trans x (mem_allN.mp hx)).1 y hy).1⟩
theorem all_nd (hw : WOk w) : (allN w).Nodup := nd_sortN hw.nd
end
end Px

namespace K16
open PySem PySem.Spec PyProof.Rows L2 Mx
def topS (i : Nat) : Stmt := PySem.Challenge.pw_marginwords_k16_refusals_apart.main.body.getD i (.Pass ⟨0, 0, 0, 0⟩)
abbrev s_change_of : Stmt := topS 12
abbrev s_spread : Stmt := topS 13
abbrev s_known : Stmt := topS 14
abbrev s_knows : Stmt := topS 15
abbrev s_tops : Stmt := topS 16
abbrev s_is_number : Stmt := topS 18
abbrev s_exchanged : Stmt := topS 20
abbrev s_need : Stmt := topS 22
abbrev s_lets_exchanges : Stmt := topS 23
abbrev s_by_names : Stmt := topS 25
abbrev s_joined : Stmt := topS 26
abbrev s__law_feed : Stmt := topS 28
abbrev s__law_draw : Stmt := topS 29
abbrev s__law_words : Stmt := topS 30
abbrev s__law_deed : Stmt := topS 31
abbrev s__law_step : Stmt := topS 32
abbrev s__law_world : Stmt := topS 33
abbrev s__law_ledger : Stmt := topS 34
abbrev s__law_refused : Stmt := topS 35
abbrev s__law_names_right : Stmt := topS 36
abbrev s__law_put : Stmt := topS 37
abbrev s__law_joins_right : Stmt := topS 38
abbrev s__law_papers_right : Stmt := topS 39
abbrev s_law : Stmt := topS 40
abbrev s_NoPaper : Stmt := topS 2
abbrev s_NoJoin : Stmt := topS 4
abbrev s_NoName : Stmt := topS 5
theorem sc_change_of : FnScope ["ledger", "name", "change"] ["ledger", "name"] (defScope s_change_of) := ⟨rfl, rfl, rfl, by decide +kernel, rfl, by decide +kernel, by decide +kernel⟩
theorem sc_spread : FnScope ["ledger", "names", "wanted", "name", "hand", "base", "deed", "one"] ["ledger", "names"] (defScope s_spread) := ⟨rfl, rfl, rfl, by decide +kernel, rfl, by decide +kernel, by decide +kernel⟩
theorem sc_known : FnScope ["ledger", "name", "wanted", "change"] ["ledger", "name"] (defScope s_known) := ⟨rfl, rfl, rfl, by decide +kernel, rfl, by decide +kernel, by decide +kernel⟩
theorem sc_knows : FnScope ["ledger", "one", "other", "base"] ["ledger", "one", "other"] (defScope s_knows) := ⟨rfl, rfl, rfl, by decide +kernel, rfl, by decide +kernel, by decide +kernel⟩
theorem sc_tops : FnScope ["ledger", "below", "name", "hand", "base", "deed", "one", "change"] ["ledger"] (defScope s_tops) := ⟨rfl, rfl, rfl, by decide +kernel, rfl, by decide +kernel, by decide +kernel⟩
theorem sc_is_number : FnScope ["thing"] ["thing"] (defScope s_is_number) := ⟨rfl, rfl, rfl, by decide +kernel, rfl, by decide +kernel, by decide +kernel⟩
theorem sc_exchanged : FnScope ["road", "k"] ["road", "k"] (defScope s_exchanged) := ⟨rfl, rfl, rfl, by decide +kernel, rfl, by decide +kernel, by decide +kernel⟩
theorem sc_need : FnScope ["truth", "word", "at"] ["truth", "word", "at"] (defScope s_need) := ⟨rfl, rfl, rfl, by decide +kernel, rfl, by decide +kernel, by decide +kernel⟩
theorem sc_lets_exchanges : FnScope ["ledger", "one", "other", "thing", "k", "place", "road"] ["ledger", "one", "other", "thing"] (defScope s_lets_exchanges) := ⟨rfl, rfl, rfl, by decide +kernel, rfl, by decide +kernel, by decide +kernel⟩
theorem sc_by_names : FnScope ["ledger", "found", "change"] ["ledger"] (defScope s_by_names) := ⟨rfl, rfl, rfl, by decide +kernel, rfl, by decide +kernel, by decide +kernel⟩
theorem sc_joined : FnScope ["one", "other", "mine", "theirs", "found", "last", "name", "change", "has"] ["one", "other"] (defScope s_joined) := ⟨rfl, rfl, rfl, by decide +kernel, rfl, by decide +kernel, by decide +kernel⟩
theorem sc__law_feed : FnScope ["_law_script"] ["_law_script"] (defScope s__law_feed) := ⟨rfl, rfl, rfl, by decide +kernel, rfl, by decide +kernel, by decide +kernel⟩
theorem sc__law_draw : FnScope ["_law_feed_here", "_law_many", "_law_figure", "_law_at", "_law_cell", "_law_mixed"] ["_law_feed_here", "_law_many"] (defScope s__law_draw) := ⟨rfl, rfl, rfl, by decide +kernel, rfl, by decide +kernel, by decide +kernel⟩
theorem sc__law_words : FnScope ["_law_feed_here", "_law_many", "_law_abc", "_law_way", "_law_first", "_law_k", "_law_stem", "_law_at", "_law_start", "_law_step_here", "_law_words_here", "_law_tail", "_law_own"] ["_law_feed_here", "_law_many"] (defScope s__law_words) := ⟨rfl, rfl, rfl, by decide +kernel, rfl, by decide +kernel, by decide +kernel⟩
theorem sc__law_deed : FnScope ["_law_feed_here", "_law_world_here", "_law_base", "_law_floor", "_law_abc", "_law_letters", "_law_way", "_law_sorts", "_law_hangs", "_law_name", "_law_k"] ["_law_feed_here", "_law_world_here", "_law_base", "_law_floor"] (defScope s__law_deed) := ⟨rfl, rfl, rfl, by decide +kernel, rfl, by decide +kernel, by decide +kernel⟩
theorem sc__law_step : FnScope ["_law_feed_here", "_law_world_here", "_law_words_here", "_law_branch", "_law_names", "_law_grounds", "_law_wanted", "_law_one", "_law_name", "_law_floor", "_law_below", "_law_base", "_law_own", "_law_deed_here"] ["_law_feed_here", "_law_world_here", "_law_words_here"] (defScope s__law_step) := ⟨rfl, rfl, rfl, by decide +kernel, rfl, by decide +kernel, by decide +kernel⟩
theorem sc__law_world : FnScope ["_law_feed_here", "_law_words_here", "_law_many", "_law_world_here", "_law_k"] ["_law_feed_here", "_law_words_here", "_law_many"] (defScope s__law_world) := ⟨rfl, rfl, rfl, by decide +kernel, rfl, by decide +kernel, by decide +kernel⟩
theorem sc__law_ledger : FnScope ["_law_world_here", "_law_names", "_law_name"] ["_law_world_here", "_law_names"] (defScope s__law_ledger) := ⟨rfl, rfl, rfl, by decide +kernel, rfl, by decide +kernel, by decide +kernel⟩
theorem sc__law_refused : FnScope ["_law_ask", "_law_found", "e", "_law_sorts"] ["_law_ask"] (defScope s__law_refused) := ⟨rfl, rfl, rfl, by decide +kernel, rfl, by decide +kernel, by decide +kernel⟩
theorem sc__law_names_right : FnScope ["_law_world_here", "_law_ledger_here", "_law_name", "_law_other", "_law_sorts", "_law_found", "_law_due", "_law_has"] ["_law_world_here", "_law_ledger_here", "_law_name", "_law_other"] (defScope s__law_names_right) := ⟨rfl, rfl, rfl, by decide +kernel, rfl, by decide +kernel, by decide +kernel⟩
theorem sc__law_put : FnScope ["_law_name", "_law_hand", "_law_base"] ["_law_name", "_law_hand", "_law_base"] (defScope s__law_put) := ⟨rfl, rfl, rfl, by decide +kernel, rfl, by decide +kernel, by decide +kernel⟩
theorem sc__law_joins_right : FnScope ["_law_words_here", "_law_b", "_law_c", "_law_d", "_law_sorts", "_law_first", "_law_second", "_law_third", "_law_fourth", "_law_cases", "_law_both", "_law_mine", "_law_theirs", "_law_due", "_law_told", "_law_one", "_law_other"] ["_law_words_here"] (defScope s__law_joins_right) := ⟨rfl, rfl, rfl, by decide +kernel, rfl, by decide +kernel, by decide +kernel⟩
theorem sc__law_papers_right : FnScope ["_law_feed_here", "_law_words_here", "_law_b", "_law_c", "_law_d", "_law_sorts", "_law_cases", "_law_thing", "_law_due", "_law_word", "_law_ledger_here", "_law_one", "_law_other", "_law_paper"] ["_law_feed_here", "_law_words_here"] (defScope s__law_papers_right) := ⟨rfl, rfl, rfl, by decide +kernel, rfl, by decide +kernel, by decide +kernel⟩
theorem sc_law : FnScope ["_law_script", "_law_feed_here", "_law_words_here", "_law_world_here", "_law_ledger_here", "_law_stayed", "_law_k", "_law_name", "_law_other"] ["_law_script"] (defScope s_law) := ⟨rfl, rfl, rfl, by decide +kernel, rfl, by decide +kernel, by decide +kernel⟩
theorem sci_NoPaper : FnScope ["self", "word", "at"] ["self", "word", "at"] (defScope (iniS s_NoPaper)) := ⟨rfl, rfl, rfl, by decide +kernel, rfl, by decide +kernel, by decide +kernel⟩
theorem sci_NoJoin : FnScope ["self", "name", "word"] ["self", "name", "word"] (defScope (iniS s_NoJoin)) := ⟨rfl, rfl, rfl, by decide +kernel, rfl, by decide +kernel, by decide +kernel⟩
theorem sci_NoName : FnScope ["self", "name"] ["self", "name"] (defScope (iniS s_NoName)) := ⟨rfl, rfl, rfl, by decide +kernel, rfl, by decide +kernel, by decide +kernel⟩
noncomputable def b_change_of : SM := mThen (mFor (mSeq (mVar 0)) (gNm 2) (mIf (mBl (mBin gEq (mBin gIx (mVar 2) (mC (.int 0))) (mVar 1))) (mRet (mVar 2)) (mNext))) (mRaise "NoName" ["name"] (mCons (mVar 1) (mNil)))
noncomputable def m_change_of : List AV → AH → Res AV := gc (mDef 2 1 b_change_of)
noncomputable def b_spread : SM := mThen (mSet 2 (mDictT)) (mThen (mFor (mSeq (mVar 1)) (gNm 3) (mAsg (gPut (mVar 2) (mVar 3)) (mC (.bl true)))) (mThen (mFor (mRev (mVar 0)) (gTp 4 (gsCons (gNm 3) (gsCons (gNm 4) (gsCons (gNm 5) (gsCons (gNm 6) (gsNil)))))) (mIf (mBl (mBin (gIn false) (mVar 3) (mVar 2))) (mFor (mSeq (mVar 5)) (gNm 7) (mAsg (gPut (mVar 2) (mVar 7)) (mC (.bl true)))) (mNext))) (mRet (mVar 2))))
noncomputable def m_spread : List AV → AH → Res AV := gc (mDef 2 6 b_spread)
noncomputable def b_known : SM := mThen (mSet 2 (mCall m_spread (mCons (mVar 0) (mCons (mBin gIx (mCall m_change_of (mCons (mVar 0) (mCons (mVar 1) (mNil)))) (mC (.int 2))) (mNil))))) (mRet (mCall gTuple (mCons (mLcV (mLc [3] (mSeq (mVar 0)) (gNm 3) (mBl (mBin (gIn false) (mBin gIx (mVar 3) (mC (.int 0))) (mVar 2))) (mVar 3))) (mNil))))
noncomputable def m_known : List AV → AH → Res AV := gc (mDef 2 2 b_known)
noncomputable def b_knows : SM := mThen (mSet 3 (mBin gIx (mCall m_change_of (mCons (mVar 0) (mCons (mVar 1) (mNil)))) (mC (.int 2)))) (mThen (mExp (mCall m_change_of (mCons (mVar 0) (mCons (mVar 2) (mNil))))) (mRet (mBin (gIn false) (mVar 2) (mCall m_spread (mCons (mVar 0) (mCons (mVar 3) (mNil)))))))
noncomputable def m_knows : List AV → AH → Res AV := gc (mDef 3 1 b_knows)
noncomputable def b_tops : SM := mThen (mSet 1 (mDictT)) (mThen (mFor (mSeq (mVar 0)) (gTp 4 (gsCons (gNm 2) (gsCons (gNm 3) (gsCons (gNm 4) (gsCons (gNm 5) (gsNil)))))) (mFor (mSeq (mVar 4)) (gNm 6) (mAsg (gPut (mVar 1) (mVar 6)) (mC (.bl true))))) (mRet (mCall gTuple (mCons (mLcV (mLc [7] (mSeq (mVar 0)) (gNm 7) (mBl (mBin (gIn true) (mBin gIx (mVar 7) (mC (.int 0))) (mVar 1))) (mBin gIx (mVar 7) (mC (.int 0))))) (mNil)))))
noncomputable def m_tops : List AV → AH → Res AV := gc (mDef 1 7 b_tops)
noncomputable def b_is_number : SM := mRet (mAndV (mUn (gIsi "int") (mVar 0)) (mNotV (mUn (gIsi "bool") (mVar 0))))
noncomputable def m_is_number : List AV → AH → Res AV := gc (mDef 1 0 b_is_number)
noncomputable def b_exchanged : SM := mRet (mBin gAdd (mBin gAdd (mSl gSl (mVar 0) (mNoPart) (mPart (mVar 1))) (mTup (mCons (mBin gIx (mVar 0) (mBin gAdd (mVar 1) (mC (.int 1)))) (mCons (mBin gIx (mVar 0) (mVar 1)) (mNil))))) (mSl gSl (mVar 0) (mPart (mBin gAdd (mVar 1) (mC (.int 2)))) (mNoPart)))
noncomputable def m_exchanged : List AV → AH → Res AV := gc (mDef 2 0 b_exchanged)
noncomputable def b_need : SM := mIf (mNot (mTru (mVar 0))) (mRaise "NoPaper" ["word", "at"] (mCons (mVar 1) (mCons (mVar 2) (mNil)))) (mNext)
noncomputable def m_need : List AV → AH → Res AV := gc (mDef 3 0 b_need)
noncomputable def b_lets_exchanges : SM := mThen (mExp (mCall m_need (mCons (mUn (gIsi "tuple") (mVar 3)) (mCons (mC (.str "shape")) (mCons (mUn gNeg (mC (.int 1))) (mNil)))))) (mThen (mFor (mEnumT (mCons (mVar 3) (mNil))) (gTp 2 (gsCons (gNm 4) (gsCons (gNm 5) (gsNil)))) (mExp (mCall m_need (mCons (mAndV (mCall m_is_number (mCons (mVar 5) (mNil))) (mChain gLe gLe (mC (.int 0)) (mVar 5) (mBin gSub (mCall gLen (mCons (mVar 1) (mNil))) (mC (.int 2))))) (mCons (mC (.str "place")) (mCons (mVar 4) (mNil))))))) (mThen (mSet 6 (mVar 1)) (mThen (mFor (mEnumT (mCons (mVar 3) (mNil))) (gTp 2 (gsCons (gNm 4) (gsCons (gNm 5) (gsNil)))) (mThen (mExp (mCall m_need (mCons (mNotV (mCall m_knows (mCons (mVar 0) (mCons (mBin gIx (mVar 6) (mBin gAdd (mVar 5) (mC (.int 1)))) (mCons (mBin gIx (mVar 6) (mVar 5)) (mNil)))))) (mCons (mC (.str "known")) (mCons (mVar 4) (mNil)))))) (mSet 6 (mCall m_exchanged (mCons (mVar 6) (mCons (mVar 5) (mNil))))))) (mThen (mExp (mCall m_need (mCons (mBin gEq (mVar 6) (mVar 2)) (mCons (mC (.str "end")) (mCons (mUn gNeg (mC (.int 1))) (mNil)))))) (mRet (mCall gLen (mCons (mVar 3) (mNil))))))))
noncomputable def m_lets_exchanges : List AV → AH → Res AV := gc (mDef 4 3 b_lets_exchanges)
noncomputable def b_by_names : SM := mThen (mSet 1 (mDictT)) (mThen (mFor (mSeq (mVar 0)) (gNm 2) (mAsg (gPut (mVar 1) (mBin gIx (mVar 2) (mC (.int 0)))) (mVar 2))) (mRet (mVar 1)))
noncomputable def m_by_names : List AV → AH → Res AV := gc (mDef 1 2 b_by_names)
noncomputable def b_joined : SM := mThen (mPar 2 3 (mCons (mCall m_by_names (mCons (mVar 0) (mNil))) (mCons (mCall m_by_names (mCons (mVar 1) (mNil))) (mNil)))) (mThen (mSet 4 (mLstR (mNil))) (mThen (mSet 5 (mDictK)) (mThen (mFor (mSeq (mUn Px.gSortSet (mBin gAdd (mCall gListD (mCons (mVar 2) (mNil))) (mCall gListD (mCons (mVar 3) (mNil)))))) (gNm 6) (mThen (mSet 7 (mIfE (mBl (mBin (gIn false) (mVar 6) (mVar 2))) (mBin gIx (mVar 2) (mVar 6)) (mBin gIx (mVar 3) (mVar 6)))) (mThen (mIf (mAnd (mBl (mBin (gIn false) (mVar 6) (mVar 3))) (mBl (mBin gNe (mBin gIx (mVar 3) (mVar 6)) (mVar 7)))) (mRaise "NoJoin" ["name", "word"] (mCons (mVar 6) (mCons (mC (.str "unlike")) (mNil)))) (mNext)) (mThen (mSet 8 (mIfE (mBl (mBin (gIn false) (mVar 6) (mVar 2))) (mVar 2) (mVar 3))) (mThen (mIf (mAnd (mBl (mBin (gIn false) (mBin gIx (mVar 6) (mC (.int 1))) (mVar 5))) (mBl (mBin (gIn true) (mBin gIx (mVar 5) (mBin gIx (mVar 6) (mC (.int 1)))) (mVar 8)))) (mRaise "NoJoin" ["name", "word"] (mCons (mVar 6) (mCons (mC (.str "branch")) (mNil)))) (mNext)) (mThen (mAsg (gPut (mVar 5) (mBin gIx (mVar 6) (mC (.int 1)))) (mVar 6)) (mExp (mMeth tyL gAppend (mVar 4) (mCons (mVar 7) (mNil)))))))))) (mRet (mCall gTuple (mCons (mVar 4) (mNil)))))))
noncomputable def m_joined : List AV → AH → Res AV := gc (mDef 2 7 b_joined)
noncomputable def b__law_feed : SM := mRet (mDisp (kCons (.inr "cells") (mCall gListV (mCons (mSl gSl (mVar 0) (mNoPart) (mPart (mC (.int 63)))) (mNil))) (kCons (.inr "at") (mC (.int 0)) (kCons (.inr "left") (mC (.int 0)) (kCons (.inr "count") (mC (.int 0)) (kNil))))))
noncomputable def m__law_feed : List AV → AH → Res AV := gc (mDef 1 0 b__law_feed)
noncomputable def b__law_draw : SM := mThen (mAsg (gPut (mVar 0) (mC (.str "count"))) (mBin gAdd (mBin gIx (mVar 0) (mC (.str "count"))) (mC (.int 1)))) (mThen (mIf (mBl (mBin gGt (mBin gIx (mVar 0) (mC (.str "left"))) (mC (.int 0)))) (mThen (mSet 2 (mBin gMod (mBin gIx (mVar 0) (mC (.str "left"))) (mVar 1))) (mThen (mAsg (gPut (mVar 0) (mC (.str "left"))) (mBin gDiv (mBin gIx (mVar 0) (mC (.str "left"))) (mVar 1))) (mRet (mVar 2)))) (mNext)) (mThen (mSet 3 (mBin gIx (mVar 0) (mC (.str "at")))) (mThen (mAsg (gPut (mVar 0) (mC (.str "at"))) (mBin gAdd (mVar 3) (mC (.int 1)))) (mThen (mSet 4 (mIfE (mBl (mBin gNe (mBin gIx (mVar 0) (mC (.str "cells"))) (mLst (mNil)))) (mBin gIx (mBin gIx (mVar 0) (mC (.str "cells"))) (mBin gMod (mVar 3) (mCall gLen (mCons (mBin gIx (mVar 0) (mC (.str "cells"))) (mNil))))) (mC (.int 3)))) (mThen (mIf (mAnd (mBl (mBin gGe (mVar 4) (mBin gPow (mC (.int 10)) (mC (.int 18))))) (mBl (mBin gLt (mVar 3) (mCall gLen (mCons (mBin gIx (mVar 0) (mC (.str "cells"))) (mNil)))))) (mThen (mAsg (gPut (mVar 0) (mC (.str "left"))) (mBin gDiv (mVar 4) (mVar 1))) (mRet (mBin gMod (mVar 4) (mVar 1)))) (mNext)) (mThen (mSet 5 (mBin gMod (mBin gAdd (mBin gAdd (mBin gMod (mVar 4) (mC (.int 1000000007))) (mBin gMul (mC (.int 40503)) (mBin gIx (mVar 0) (mC (.str "count"))))) (mC (.int 17))) (mC (.int 2147483629)))) (mThen (mSet 5 (mBin gMod (mBin gAdd (mBin gAdd (mBin gMul (mVar 5) (mVar 5)) (mBin gMul (mC (.int 15485863)) (mBin gIx (mVar 0) (mC (.str "count"))))) (mC (.int 1))) (mC (.int 2147483587)))) (mRet (mBin gMod (mBin gDiv (mBin gMod (mBin gAdd (mBin gMul (mVar 5) (mVar 5)) (mBin gMul (mC (.int 7)) (mVar 5))) (mC (.int 2147483549))) (mC (.int 8))) (mVar 1))))))))))
noncomputable def m__law_draw : List AV → AH → Res AV := gc (mDef 2 4 b__law_draw)
noncomputable def b__law_words : SM := mThen (mSet 2 (mC (.str "abcdefghijklmnopqrstuvwxyz"))) (mThen (mSet 3 (mCall m__law_draw (mCons (mVar 0) (mCons (mC (.int 4)) (mNil))))) (mThen (mIf (mBl (mBin gEq (mVar 3) (mC (.int 0)))) (mThen (mSet 4 (mBin gIx (mVar 2) (mCall m__law_draw (mCons (mVar 0) (mCons (mC (.int 26)) (mNil)))))) (mRet (mBin gStep (mLcV (mLc [5] (mRng1 (mCons (mVar 1) (mNil))) (gNm 5) ((fun _ M => Res.ok true M)) (mBin gMul (mVar 4) (mBin gAdd (mVar 5) (mC (.int 1)))))) (mBin gSub (mC (.int 1)) (mBin gMul (mC (.int 2)) (mCall m__law_draw (mCons (mVar 0) (mCons (mC (.int 2)) (mNil))))))))) (mNext)) (mThen (mSet 6 (mMeth tyS gJoin (mC (.str "")) (mCons (mLcV (mLc [5] (mRng1 (mCons (mCall m__law_draw (mCons (mVar 0) (mCons (mC (.int 7)) (mNil)))) (mNil))) (gNm 5) ((fun _ M => Res.ok true M)) (mBin gIx (mVar 2) (mCall m__law_draw (mCons (mVar 0) (mCons (mC (.int 26)) (mNil))))))) (mNil)))) (mThen (mSet 7 (mCall m__law_draw (mCons (mVar 0) (mCons (mBin gAdd (mCall gLen (mCons (mVar 6) (mNil))) (mC (.int 1))) (mNil))))) (mThen (mSet 8 (mCall m__law_draw (mCons (mVar 0) (mCons (mC (.int 26)) (mNil))))) (mThen (mSet 9 (mBin gIx (mLst (mCons (mC (.int 1)) (mCons (mC (.int 3)) (mCons (mC (.int 5)) (mCons (mC (.int 7)) (mCons (mC (.int 9)) (mCons (mC (.int 25)) (mNil)))))))) (mCall m__law_draw (mCons (mVar 0) (mCons (mC (.int 6)) (mNil)))))) (mThen (mSet 10 (mLstR (mNil))) (mThen (mFor (mRng1 (mCons (mVar 1) (mNil))) (gNm 5) (mThen (mSet 11 (mBin gMul (mBin gIx (mVar 2) (mCall m__law_draw (mCons (mVar 0) (mCons (mC (.int 26)) (mNil))))) (mCall m__law_draw (mCons (mVar 0) (mCons (mC (.int 2)) (mNil)))))) (mThen (mSet 12 (mBin gIx (mVar 2) (mBin gMod (mBin gAdd (mVar 8) (mBin gMul (mVar 5) (mVar 9))) (mC (.int 26))))) (mExp (mMeth tyL gAppend (mVar 10) (mCons (mBin gAdd (mBin gAdd (mBin gAdd (mSl gSl (mVar 6) (mNoPart) (mPart (mVar 7))) (mVar 12)) (mSl gSl (mVar 6) (mPart (mVar 7)) (mNoPart))) (mVar 11)) (mNil))))))) (mRet (mVar 10))))))))))
noncomputable def m__law_words : List AV → AH → Res AV := gc (mDef 2 11 b__law_words)
noncomputable def b__law_deed : SM := mThen (mSet 4 (mC (.str "abcdefghijklmnopqrstuvwxyz "))) (mThen (mSet 5 (mMeth tyS gJoin (mC (.str "")) (mCons (mLcV (mLc [10] (mRng1 (mCons (mBin gAdd (mC (.int 1)) (mCall m__law_draw (mCons (mVar 0) (mCons (mC (.int 5)) (mNil))))) (mNil))) (gNm 10) ((fun _ M => Res.ok true M)) (mBin gIx (mVar 4) (mCall m__law_draw (mCons (mVar 0) (mCons (mC (.int 27)) (mNil))))))) (mNil)))) (mThen (mSet 6 (mCall m__law_draw (mCons (mVar 0) (mCons (mC (.int 6)) (mNil))))) (mThen (mSet 7 (mLcV (mLc [9] (mSeq (mVar 3)) (gNm 9) ((fun _ M => Res.ok true M)) (mBin gIx (mBin gIx (mBin gIx (mBin gIx (mVar 1) (mC (.str "changes"))) (mVar 9)) (mC (.int 3))) (mC (.int 0)))))) (mThen (mSet 8 (mLcV (mLc [10] (mRng1 (mCons (mCall gLen (mCons (mVar 3) (mNil))) (mNil))) (gNm 10) (mBl (mBin gEq (mBin gIx (mVar 7) (mVar 10)) (mC (.str "hang")))) (mBin gIx (mVar 3) (mVar 10))))) (mThen (mIf (mAnd (mBl (mBin gEq (mVar 6) (mC (.int 0)))) (mBl (mBin gGt (mCall gLen (mCons (mVar 2) (mNil))) (mC (.int 1))))) (mRet (mTup (mCons (mC (.str "join")) (mNil)))) (mNext)) (mThen (mIf (mAnd (mBl (mBin gEq (mVar 6) (mC (.int 1)))) (mAnd (mBl (mBin (gIn false) (mC (.str "put")) (mVar 7))) (mBl (mBin gLt (mCall gLen (mCons (mBin gIx (mVar 1) (mC (.str "hangs"))) (mNil))) (mC (.int 6)))))) (mRet (mTup (mCons (mC (.str "hang")) (mCons (mC (.int 0)) (mCons (mC (.int 1)) (mCons (mBin gIx (mLst (mCons (mC (.str "shut")) (mCons (mC (.str "wide")) (mNil)))) (mCall m__law_draw (mCons (mVar 0) (mCons (mC (.int 2)) (mNil))))) (mCons (mVar 5) (mNil)))))))) (mNext)) (mThen (mIf (mAnd (mBl (mBin gEq (mVar 6) (mC (.int 2)))) (mBl (mBin gNe (mVar 8) (mLst (mNil))))) (mRet (mTup (mCons (mC (.str "answer")) (mCons (mBin gIx (mVar 8) (mCall m__law_draw (mCons (mVar 0) (mCons (mCall gLen (mCons (mVar 8) (mNil))) (mNil))))) (mCons (mVar 5) (mNil)))))) (mNext)) (mRet (mTup (mCons (mC (.str "put")) (mCons (mC (.int 0)) (mCons (mVar 5) (mNil)))))))))))))
noncomputable def m__law_deed : List AV → AH → Res AV := gc (mDef 4 7 b__law_deed)
noncomputable def b__law_step : SM := mThen (mSet 3 (mBin gIx (mVar 2) (mCall m__law_draw (mCons (mVar 0) (mCons (mCall gLen (mCons (mVar 2) (mNil))) (mNil)))))) (mThen (mSet 4 (mCall gSorted (mCons (mBin gIx (mVar 1) (mC (.str "changes"))) (mNil)))) (mThen (mSet 5 (mIfE (mBl (mBin (gIn false) (mVar 3) (mBin gIx (mVar 1) (mC (.str "last"))))) (mLstR (mCons (mBin gIx (mBin gIx (mVar 1) (mC (.str "last"))) (mVar 3)) (mNil))) (mLstR (mNil)))) (mThen (mIf (mAnd (mBl (mBin gNe (mVar 4) (mLst (mNil)))) (mBl (mBin gLt (mCall m__law_draw (mCons (mVar 0) (mCons (mC (.int 5)) (mNil)))) (mC (.int 2))))) (mExp (mMeth tyL gAppend (mVar 5) (mCons (mBin gIx (mVar 4) (mCall m__law_draw (mCons (mVar 0) (mCons (mCall gLen (mCons (mVar 4) (mNil))) (mNil))))) (mNil)))) (mNext)) (mThen (mSet 6 (mDictT)) (mThen (mFor (mSeq (mVar 5)) (gNm 7) (mFor (mSeq (mBin gAdd (mBin gIx (mBin gIx (mVar 1) (mC (.str "knows"))) (mVar 7)) (mLst (mCons (mVar 7) (mNil))))) (gNm 8) (mAsg (gPut (mVar 6) (mVar 8)) (mC (.bl true))))) (mThen (mSet 9 (mCall gSorted (mCons (mVar 6) (mNil)))) (mThen (mSet 10 (mDictT)) (mThen (mFor (mSeq (mVar 9)) (gNm 8) (mFor (mSeq (mBin gIx (mBin gIx (mVar 1) (mC (.str "knows"))) (mVar 8))) (gNm 7) (mAsg (gPut (mVar 10) (mVar 7)) (mC (.bl true))))) (mThen (mSet 11 (mCall gTuple (mCons (mLcV (mLc [8] (mSeq (mVar 9)) (gNm 8) (mBl (mBin (gIn true) (mVar 8) (mVar 10))) (mVar 8))) (mNil)))) (mThen (mSet 12 (mTup (mCons (mBin gAdd (mC (.int 1)) (mCallK gMaxDf (mCons (mLcV (mLc [8] (mSeq (mVar 9)) (gNm 8) ((fun _ M => Res.ok true M)) (mBin gIx (mVar 8) (mC (.int 0))))) (mNil)) (mCons (mC (.int 0)) mNil))) (mCons (mVar 3) (mNil))))) (mThen (mSet 13 (mCall m__law_deed (mCons (mVar 0) (mCons (mVar 1) (mCons (mVar 11) (mCons (mVar 9) (mNil))))))) (mThen (mIf (mBl (mBin gEq (mBin gIx (mVar 13) (mC (.int 0))) (mC (.str "hang")))) (mExp (mMeth tyL gAppend (mBin gIx (mVar 1) (mC (.str "hangs"))) (mCons (mVar 12) (mNil)))) (mNext)) (mThen (mAsg (gPut (mBin gIx (mVar 1) (mC (.str "changes"))) (mVar 12)) (mTup (mCons (mVar 12) (mCons (mBin gIx (mVar 2) (mCall m__law_draw (mCons (mVar 0) (mCons (mCall gLen (mCons (mVar 2) (mNil))) (mNil))))) (mCons (mVar 11) (mCons (mVar 13) (mNil))))))) (mThen (mAsg (gPut (mBin gIx (mVar 1) (mC (.str "knows"))) (mVar 12)) (mVar 9)) (mAsg (gPut (mBin gIx (mVar 1) (mC (.str "last"))) (mVar 3)) (mVar 12))))))))))))))))
noncomputable def m__law_step : List AV → AH → Res AV := gc (mDef 3 11 b__law_step)
noncomputable def b__law_world : SM := mThen (mSet 3 (mDisp (kCons (.inr "changes") (mDictT) (kCons (.inr "knows") (mDictT) (kCons (.inr "last") (mDictK) (kCons (.inr "hangs") (mLstR (mNil)) (kNil))))))) (mThen (mFor (mRng1 (mCons (mVar 2) (mNil))) (gNm 4) (mExp (mCall m__law_step (mCons (mVar 0) (mCons (mVar 3) (mCons (mVar 1) (mNil))))))) (mRet (mVar 3)))
noncomputable def m__law_world : List AV → AH → Res AV := gc (mDef 3 2 b__law_world)
noncomputable def b__law_ledger : SM := mRet (mCall gTuple (mCons (mLcV (mLc [2] (mSeq (mCall gSorted (mCons (mBin gIx (mVar 0) (mC (.str "changes"))) (mNil)))) (gNm 2) (mBl (mBin (gIn false) (mVar 2) (mVar 1))) (mBin gIx (mBin gIx (mVar 0) (mC (.str "changes"))) (mVar 2)))) (mNil)))
noncomputable def m__law_ledger : List AV → AH → Res AV := gc (mDef 2 1 b__law_ledger)
noncomputable def h__law_refused : Str → List (Str × AV) → SM := fun c fs => mThen (mSet 3 (mLstR (mCons (mXi [("NoPaper", false), ("NoJoin", false), ("NoName", true)] c fs) (mCons (mXi [("NoPaper", false), ("NoJoin", true), ("NoName", false)] c fs) (mCons (mXi [("NoPaper", true), ("NoJoin", false), ("NoName", false)] c fs) (mCons (mXi [("NoPaper", true), ("NoJoin", true), ("NoName", true)] c fs) (mNil))))))) (mThen (mExp (mMeth tyL gAppend (mVar 3) (mCons (mXi [("NoPaper", false), ("NoJoin", false), ("NoName", false)] c fs) (mNil)))) (mIf (mTru (mBin gIx (mVar 3) (mC (.int 0)))) (mSet 1 (mTup (mCons (mVar 3) (mCons (mXf "NoName" "name" c fs) (mNil))))) (mIf (mTru (mBin gIx (mVar 3) (mC (.int 1)))) (mSet 1 (mTup (mCons (mVar 3) (mCons (mXf "NoJoin" "name" c fs) (mCons (mXf "NoJoin" "word" c fs) (mNil)))))) (mIf (mTru (mBin gIx (mVar 3) (mC (.int 2)))) (mSet 1 (mTup (mCons (mVar 3) (mCons (mXf "NoPaper" "word" c fs) (mCons (mXf "NoPaper" "at" c fs) (mNil)))))) (mNext)))))
noncomputable def t__law_refused : Res AV → Res AV := toldR [("NoPaper", true), ("NoJoin", true), ("NoName", true)] h__law_refused
noncomputable def b__law_names_right : SM := mThen (mSet 4 (mLst (mCons (mC (.bl true)) (mCons (mC (.bl false)) (mCons (mC (.bl false)) (mCons (mC (.bl true)) (mCons (mC (.bl false)) (mNil)))))))) (mThen (mSet 5 (mLstR (mCons (fun G M => t__law_refused ((mCall m_change_of (mCons (mVar 1) (mCons (mVar 2) (mNil)))) G M)) (mNil)))) (mThen (mExp (mMeth tyL gAppend (mVar 5) (mCons (fun G M => t__law_refused ((mCall m_known (mCons (mVar 1) (mCons (mVar 2) (mNil)))) G M)) (mNil)))) (mThen (mExp (mMeth tyL gAppend (mVar 5) (mCons (fun G M => t__law_refused ((mCall m_knows (mCons (mVar 1) (mCons (mVar 2) (mCons (mVar 3) (mNil))))) G M)) (mNil)))) (mThen (mSet 6 (mBin gRep (mLst (mCons (mTup (mCons (mVar 4) (mCons (mVar 2) (mNil)))) (mNil))) (mC (.int 3)))) (mThen (mIf (mBl (mBin gNe (mVar 1) (mTup (mNil)))) (mThen (mSet 7 (mBin gIx (mBin gIx (mVar 1) (mUn gNeg (mC (.int 1)))) (mC (.int 0)))) (mThen (mExp (mMeth tyL gAppend (mVar 5) (mCons (fun G M => t__law_refused ((mCall m_knows (mCons (mVar 1) (mCons (mVar 7) (mCons (mVar 2) (mNil))))) G M)) (mNil)))) (mThen (mExp (mMeth tyL gAppend (mVar 5) (mCons (fun G M => t__law_refused ((mCall m_knows (mCons (mVar 1) (mCons (mVar 2) (mCons (mVar 7) (mNil))))) G M)) (mNil)))) (mSet 6 (mBin gAdd (mVar 6) (mBin gRep (mLst (mCons (mTup (mCons (mVar 4) (mCons (mVar 2) (mNil)))) (mNil))) (mC (.int 2)))))))) (mNext)) (mRet (mBin gEq (mCall gRepr (mCons (mVar 5) (mNil))) (mCall gRepr (mCons (mVar 6) (mNil))))))))))
noncomputable def m__law_names_right : List AV → AH → Res AV := gc (mDef 4 4 b__law_names_right)
noncomputable def b__law_put : SM := mRet (mTup (mCons (mVar 0) (mCons (mVar 1) (mCons (mVar 2) (mCons (mTup (mCons (mC (.str "put")) (mCons (mC (.int 0)) (mCons (mC (.str "ab")) (mNil))))) (mNil))))))
noncomputable def m__law_put : List AV → AH → Res AV := gc (mDef 3 0 b__law_put)
noncomputable def b__law_joins_right : SM := mThen (mAsg (gLs 3 (gsCons (gNm 1) (gsCons (gNm 2) (gsCons (gNm 3) (gsNil))))) (mSl gSl (mVar 0) (mNoPart) (mPart (mC (.int 3))))) (mThen (mSet 4 (mLst (mCons (mC (.bl false)) (mCons (mC (.bl true)) (mCons (mC (.bl false)) (mCons (mC (.bl true)) (mCons (mC (.bl false)) (mNil)))))))) (mThen (mSet 5 (mLst (mCons (mCall m__law_put (mCons (mTup (mCons (mC (.int 1)) (mCons (mVar 1) (mNil)))) (mCons (mVar 1) (mCons (mTup (mNil)) (mNil))))) (mCons (mCall m__law_put (mCons (mTup (mCons (mC (.int 2)) (mCons (mVar 1) (mNil)))) (mCons (mVar 1) (mCons (mTup (mCons (mTup (mCons (mC (.int 1)) (mCons (mVar 1) (mNil)))) (mNil))) (mNil))))) (mCons (mCall m__law_put (mCons (mTup (mCons (mC (.int 1)) (mCons (mVar 2) (mNil)))) (mCons (mVar 2) (mCons (mTup (mNil)) (mNil))))) (mNil)))))) (mThen (mSet 6 (mLst (mCons (mCall m__law_put (mCons (mTup (mCons (mC (.int 1)) (mCons (mVar 3) (mNil)))) (mCons (mVar 3) (mCons (mTup (mNil)) (mNil))))) (mCons (mCall m__law_put (mCons (mTup (mCons (mC (.int 2)) (mCons (mVar 1) (mNil)))) (mCons (mVar 1) (mCons (mTup (mCons (mTup (mCons (mC (.int 1)) (mCons (mVar 3) (mNil)))) (mNil))) (mNil))))) (mNil))))) (mThen (mSet 7 (mLst (mCons (mCall m__law_put (mCons (mTup (mCons (mC (.int 1)) (mCons (mVar 2) (mNil)))) (mCons (mVar 2) (mCons (mTup (mNil)) (mNil))))) (mCons (mCall m__law_put (mCons (mTup (mCons (mC (.int 2)) (mCons (mVar 2) (mNil)))) (mCons (mVar 2) (mCons (mTup (mCons (mTup (mCons (mC (.int 1)) (mCons (mVar 2) (mNil)))) (mNil))) (mNil))))) (mNil))))) (mThen (mSet 8 (mBin gAdd (mVar 6) (mLst (mCons (mCall m__law_put (mCons (mTup (mCons (mC (.int 1)) (mCons (mVar 2) (mNil)))) (mCons (mVar 2) (mCons (mTup (mNil)) (mNil))))) (mCons (mCall m__law_put (mCons (mTup (mCons (mC (.int 2)) (mCons (mVar 2) (mNil)))) (mCons (mVar 3) (mCons (mTup (mCons (mTup (mCons (mC (.int 1)) (mCons (mVar 2) (mNil)))) (mNil))) (mNil))))) (mNil)))))) (mThen (mSet 9 (mLstR (mCons (mTup (mCons (mVar 5) (mCons (mVar 6) (mCons (mTup (mCons (mTup (mCons (mC (.int 2)) (mCons (mVar 1) (mNil)))) (mCons (mC (.str "unlike")) (mNil)))) (mNil))))) (mCons (mTup (mCons (mSl gSl (mVar 5) (mNoPart) (mPart (mC (.int 1)))) (mCons (mVar 6) (mCons (mTup (mCons (mTup (mCons (mC (.int 2)) (mCons (mVar 1) (mNil)))) (mCons (mC (.str "branch")) (mNil)))) (mNil))))) (mNil))))) (mThen (mExp (mMeth tyL gAppend (mVar 9) (mCons (mTup (mCons (mVar 7) (mCons (mVar 8) (mCons (mTup (mCons (mTup (mCons (mC (.int 2)) (mCons (mVar 2) (mNil)))) (mCons (mC (.str "unlike")) (mNil)))) (mNil))))) (mNil)))) (mThen (mSet 10 (mCall gMinD (mCons (mTup (mCons (mTup (mCons (mC (.int 2)) (mCons (mVar 1) (mNil)))) (mCons (mC (.str "branch")) (mNil)))) (mCons (mTup (mCons (mTup (mCons (mC (.int 2)) (mCons (mVar 2) (mNil)))) (mCons (mC (.str "unlike")) (mNil)))) (mNil))))) (mThen (mExp (mMeth tyL gAppend (mVar 9) (mCons (mTup (mCons (mBin gAdd (mSl gSl (mVar 5) (mNoPart) (mPart (mC (.int 1)))) (mVar 7)) (mCons (mVar 8) (mCons (mVar 10) (mNil))))) (mNil)))) (mThen (mFor (mSeq (mVar 9)) (gTp 3 (gsCons (gNm 11) (gsCons (gNm 12) (gsCons (gNm 13) (gsNil))))) (mThen (mAsg (gTp 2 (gsCons (gNm 15) (gsCons (gNm 16) (gsNil)))) (mTup (mCons (mCall gTuple (mCons (mCall gSorted (mCons (mVar 11) (mNil))) (mNil))) (mCons (mCall gTuple (mCons (mCall gSorted (mCons (mVar 12) (mNil))) (mNil))) (mNil))))) (mThen (mSet 14 (mLstR (mCons (fun G M => t__law_refused ((mCall m_joined (mCons (mVar 15) (mCons (mVar 16) (mNil)))) G M)) (mNil)))) (mThen (mExp (mMeth tyL gAppend (mVar 14) (mCons (fun G M => t__law_refused ((mCall m_joined (mCons (mVar 16) (mCons (mVar 15) (mNil)))) G M)) (mNil)))) (mIf (mBl (mBin gNe (mCall gRepr (mCons (mVar 14) (mNil))) (mCall gRepr (mCons (mBin gRep (mLst (mCons (mBin gAdd (mTup (mCons (mVar 4) (mNil))) (mVar 13)) (mNil))) (mC (.int 2))) (mNil))))) (mRet (mC (.bl false))) (mNext)))))) (mRet (mC (.bl true)))))))))))))
noncomputable def m__law_joins_right : List AV → AH → Res AV := gc (mDef 1 16 b__law_joins_right)
noncomputable def b__law_papers_right : SM := mThen (mAsg (gLs 3 (gsCons (gNm 2) (gsCons (gNm 3) (gsCons (gNm 4) (gsNil))))) (mSl gSl (mVar 1) (mNoPart) (mPart (mC (.int 3))))) (mThen (mSet 5 (mLst (mCons (mC (.bl false)) (mCons (mC (.bl false)) (mCons (mC (.bl true)) (mCons (mC (.bl true)) (mCons (mC (.bl false)) (mNil)))))))) (mThen (mSet 10 (mCall gTuple (mCons (mCall gSorted (mCons (mLst (mCons (mCall m__law_put (mCons (mTup (mCons (mC (.int 1)) (mCons (mVar 2) (mNil)))) (mCons (mVar 2) (mCons (mTup (mNil)) (mNil))))) (mCons (mCall m__law_put (mCons (mTup (mCons (mC (.int 1)) (mCons (mVar 3) (mNil)))) (mCons (mVar 3) (mCons (mTup (mNil)) (mNil))))) (mCons (mCall m__law_put (mCons (mTup (mCons (mC (.int 2)) (mCons (mVar 3) (mNil)))) (mCons (mVar 3) (mCons (mTup (mCons (mTup (mCons (mC (.int 1)) (mCons (mVar 3) (mNil)))) (mNil))) (mNil))))) (mNil))))) (mNil))) (mNil)))) (mThen (mAsg (gTp 2 (gsCons (gNm 11) (gsCons (gNm 12) (gsNil)))) (mTup (mCons (mTup (mCons (mTup (mCons (mC (.int 1)) (mCons (mVar 2) (mNil)))) (mCons (mTup (mCons (mC (.int 1)) (mCons (mVar 3) (mNil)))) (mCons (mTup (mCons (mC (.int 2)) (mCons (mVar 3) (mNil)))) (mNil))))) (mCons (mTup (mCons (mTup (mCons (mC (.int 1)) (mCons (mVar 3) (mNil)))) (mCons (mTup (mCons (mC (.int 2)) (mCons (mVar 3) (mNil)))) (mCons (mTup (mCons (mC (.int 1)) (mCons (mVar 2) (mNil)))) (mNil))))) (mNil))))) (mThen (mSet 6 (mLst (mCons (mTup (mCons (mLst (mCons (mC (.int 0)) (mCons (mC (.int 1)) (mNil)))) (mCons (mTup (mCons (mC (.str "shape")) (mCons (mUn gNeg (mC (.int 1))) (mNil)))) (mNil)))) (mCons (mTup (mCons (mTup (mCons (mC (.int 2)) (mNil))) (mCons (mTup (mCons (mC (.str "place")) (mCons (mC (.int 0)) (mNil)))) (mNil)))) (mCons (mTup (mCons (mTup (mCons (mC (.int 1)) (mCons (mC (.bl true)) (mNil)))) (mCons (mTup (mCons (mC (.str "place")) (mCons (mC (.int 1)) (mNil)))) (mNil)))) (mCons (mTup (mCons (mTup (mCons (mC (.int 1)) (mNil))) (mCons (mTup (mCons (mC (.str "known")) (mCons (mC (.int 0)) (mNil)))) (mNil)))) (mNil))))))) (mThen (mSet 6 (mBin gAdd (mVar 6) (mLst (mCons (mTup (mCons (mTup (mCons (mC (.int 1)) (mCons (mC (.int 5)) (mNil)))) (mCons (mTup (mCons (mC (.str "place")) (mCons (mC (.int 1)) (mNil)))) (mNil)))) (mCons (mTup (mCons (mTup (mCons (mC (.int 0)) (mNil))) (mCons (mTup (mCons (mC (.str "end")) (mCons (mUn gNeg (mC (.int 1))) (mNil)))) (mNil)))) (mCons (mTup (mCons (mTup (mCons (mC (.int 0)) (mCons (mC (.int 1)) (mCons (mC (.int 0)) (mNil))))) (mCons (mTup (mCons (mC (.str "known")) (mCons (mC (.int 2)) (mNil)))) (mNil)))) (mCons (mTup (mCons (mTup (mCons (mC (.int 0)) (mCons (mC (.int 0)) (mCons (mC (.int 1)) (mNil))))) (mCons (mTup (mCons (mC (.str "known")) (mCons (mC (.int 2)) (mNil)))) (mNil)))) (mNil)))))))) (mThen (mSet 6 (mBin gAdd (mVar 6) (mLst (mCons (mTup (mCons (mTup (mNil)) (mCons (mTup (mCons (mC (.str "end")) (mCons (mUn gNeg (mC (.int 1))) (mNil)))) (mNil)))) (mCons (mTup (mCons (mTup (mCons (mC (.int 0)) (mCons (mUn gNeg (mC (.int 1))) (mNil)))) (mCons (mTup (mCons (mC (.str "place")) (mCons (mC (.int 1)) (mNil)))) (mNil)))) (mCons (mTup (mCons (mC .non) (mCons (mTup (mCons (mC (.str "shape")) (mCons (mUn gNeg (mC (.int 1))) (mNil)))) (mNil)))) (mCons (mTup (mCons (mTup (mCons (mC (.int 0)) (mCons (mC (.int 1)) (mCons (mC (.int 1)) (mNil))))) (mCons (mTup (mCons (mC (.str "end")) (mCons (mUn gNeg (mC (.int 1))) (mNil)))) (mNil)))) (mNil)))))))) (mThen (mAsg (gTp 2 (gsCons (gNm 7) (gsCons (gNm 8) (gsNil)))) (mBin gIx (mVar 6) (mCall m__law_draw (mCons (mVar 0) (mCons (mC (.int 12)) (mNil)))))) (mThen (mFor (mSeq (mBin gAdd (mVar 6) (mLst (mCons (mTup (mCons (mVar 7) (mCons (mVar 8) (mNil)))) (mNil))))) (gTp 2 (gsCons (gNm 13) (gsCons (gNm 9) (gsNil)))) (mIf (mBl (mBin gNe (mCall gRepr (mCons (fun G M => t__law_refused ((mCall m_lets_exchanges (mCons (mVar 10) (mCons (mVar 11) (mCons (mVar 12) (mCons (mVar 13) (mNil)))))) G M)) (mNil))) (mCall gRepr (mCons (mBin gAdd (mTup (mCons (mVar 5) (mNil))) (mVar 9)) (mNil))))) (mRet (mC (.bl false))) (mNext))) (mRet (mBin gEq (mCall gRepr (mCons (mCall m_lets_exchanges (mCons (mVar 10) (mCons (mVar 11) (mCons (mVar 12) (mCons (mTup (mCons (mC (.int 0)) (mCons (mC (.int 1)) (mNil)))) (mNil)))))) (mNil))) (mCall gRepr (mCons (mC (.int 2)) (mNil)))))))))))))
noncomputable def m__law_papers_right : List AV → AH → Res AV := gc (mDef 2 12 b__law_papers_right)
noncomputable def b_law : SM := mThen (mSet 1 (mCall m__law_feed (mCons (mVar 0) (mNil)))) (mThen (mSet 2 (mCall m__law_words (mCons (mVar 1) (mCons (mBin gAdd (mC (.int 3)) (mCall m__law_draw (mCons (mVar 1) (mCons (mC (.int 4)) (mNil))))) (mNil))))) (mThen (mSet 3 (mCall m__law_world (mCons (mVar 1) (mCons (mVar 2) (mCons (mCall m__law_draw (mCons (mVar 1) (mCons (mC (.int 11)) (mNil)))) (mNil)))))) (mThen (mSet 4 (mCall m__law_ledger (mCons (mVar 3) (mCons (mCall gListD (mCons (mBin gIx (mVar 3) (mC (.str "changes"))) (mNil))) (mNil))))) (mThen (mSet 5 (mCall gRepr (mCons (mTup (mCons (mVar 4) (mCons (mCall m_tops (mCons (mVar 4) (mNil))) (mNil)))) (mNil)))) (mThen (mFor (mRng1 (mCons (mC (.int 3)) (mNil))) (gNm 6) (mThen (mPar 7 8 (mCons (mTup (mCons (mBin gAdd (mC (.int 20)) (mCall m__law_draw (mCons (mVar 1) (mCons (mC (.int 9)) (mNil))))) (mCons (mBin gIx (mVar 2) (mVar 6)) (mNil)))) (mCons (mTup (mCons (mBin gAdd (mC (.int 30)) (mCall m__law_draw (mCons (mVar 1) (mCons (mC (.int 9)) (mNil))))) (mCons (mBin gIx (mVar 2) (mC (.int 0))) (mNil)))) (mNil)))) (mIf (mNot (mTru (mCall m__law_names_right (mCons (mVar 3) (mCons (mVar 4) (mCons (mVar 7) (mCons (mVar 8) (mNil)))))))) (mRet (mC (.bl false))) (mNext)))) (mThen (mIf (mOr (mNot (mTru (mCall m__law_joins_right (mCons (mVar 2) (mNil))))) (mNot (mTru (mCall m__law_papers_right (mCons (mVar 1) (mCons (mVar 2) (mNil))))))) (mRet (mC (.bl false))) (mNext)) (mRet (mBin gEq (mCall gRepr (mCons (mTup (mCons (mVar 4) (mCons (mCall m_tops (mCons (mVar 4) (mNil))) (mNil)))) (mNil))) (mVar 5)))))))))
noncomputable def m_law : List AV → AH → Res AV := gc (mDef 1 8 b_law)
structure Txt (K : PySem.W.Frag) (mg : Str → Option Value) (base : Heap) (f : Nat → Addr) (fd : Nat → FuncData) : Prop where
  d_change_of : Dn K mg "change_of" s_change_of ["ledger", "name"] (f 0) (fd 0)
  d_spread : Dn K mg "spread" s_spread ["ledger", "names"] (f 1) (fd 1)
  d_known : Dn K mg "known" s_known ["ledger", "name"] (f 2) (fd 2)
  d_knows : Dn K mg "knows" s_knows ["ledger", "one", "other"] (f 3) (fd 3)
  d_tops : Dn K mg "tops" s_tops ["ledger"] (f 4) (fd 4)
  d_is_number : Dn K mg "is_number" s_is_number ["thing"] (f 5) (fd 5)
  d_exchanged : Dn K mg "exchanged" s_exchanged ["road", "k"] (f 6) (fd 6)
  d_need : Dn K mg "need" s_need ["truth", "word", "at"] (f 7) (fd 7)
  d_lets_exchanges : Dn K mg "lets_exchanges" s_lets_exchanges ["ledger", "one", "other", "thing"] (f 8) (fd 8)
  d_by_names : Dn K mg "by_names" s_by_names ["ledger"] (f 9) (fd 9)
  d_joined : Dn K mg "joined" s_joined ["one", "other"] (f 10) (fd 10)
  d__law_feed : Dn K mg "_law_feed" s__law_feed ["_law_script"] (f 11) (fd 11)
  d__law_draw : Dn K mg "_law_draw" s__law_draw ["_law_feed_here", "_law_many"] (f 12) (fd 12)
  d__law_words : Dn K mg "_law_words" s__law_words ["_law_feed_here", "_law_many"] (f 13) (fd 13)
  d__law_deed : Dn K mg "_law_deed" s__law_deed ["_law_feed_here", "_law_world_here", "_law_base", "_law_floor"] (f 14) (fd 14)
  d__law_step : Dn K mg "_law_step" s__law_step ["_law_feed_here", "_law_world_here", "_law_words_here"] (f 15) (fd 15)
  d__law_world : Dn K mg "_law_world" s__law_world ["_law_feed_here", "_law_words_here", "_law_many"] (f 16) (fd 16)
  d__law_ledger : Dn K mg "_law_ledger" s__law_ledger ["_law_world_here", "_law_names"] (f 17) (fd 17)
  d__law_refused : Dn K mg "_law_refused" s__law_refused ["_law_ask"] (f 18) (fd 18)
  d__law_names_right : Dn K mg "_law_names_right" s__law_names_right ["_law_world_here", "_law_ledger_here", "_law_name", "_law_other"] (f 19) (fd 19)
  d__law_put : Dn K mg "_law_put" s__law_put ["_law_name", "_law_hand", "_law_base"] (f 20) (fd 20)
  d__law_joins_right : Dn K mg "_law_joins_right" s__law_joins_right ["_law_words_here"] (f 21) (fd 21)
  d__law_papers_right : Dn K mg "_law_papers_right" s__law_papers_right ["_law_feed_here", "_law_words_here"] (f 22) (fd 22)
  d_law : Dn K mg "law" s_law ["_law_script"] (f 23) (fd 23)
  E_NoPaper : EcT K mg "NoPaper" ["word", "at"] s_NoPaper (f 24) (f 34) (fd 34)
  E_NoJoin : EcT K mg "NoJoin" ["name", "word"] s_NoJoin (f 25) (f 35) (fd 35)
  E_NoName : EcT K mg "NoName" ["name"] s_NoName (f 26) (f 36) (fd 36)
  N_MarginError : NmC K mg "MarginError" (f 27)
  N_NoPaper : NmC K mg "NoPaper" (f 24)
  N_NoChange : NmC K mg "NoChange" (f 28)
  N_NoJoin : NmC K mg "NoJoin" (f 25)
  N_NoName : NmC K mg "NoName" (f 26)
  N_NoBase : NmC K mg "NoBase" (f 29)
  N_NoBranch : NmC K mg "NoBranch" (f 30)
  N_NoStrike : NmC K mg "NoStrike" (f 31)
  N_NoText : NmC K mg "NoText" (f 32)
  N_NoRow : NmC K mg "NoRow" (f 33)
  B_MarginError : BInit K (f 27)
  p_NoJoin_MarginError : PySem.W.subIn K (.ref (f 25)) (.ref (f 27)) = some true
  p_NoJoin_NoBase : PySem.W.subIn K (.ref (f 25)) (.ref (f 29)) = some false
  p_NoJoin_NoBranch : PySem.W.subIn K (.ref (f 25)) (.ref (f 30)) = some false
  p_NoJoin_NoChange : PySem.W.subIn K (.ref (f 25)) (.ref (f 28)) = some false
  p_NoJoin_NoJoin : PySem.W.subIn K (.ref (f 25)) (.ref (f 25)) = some true
  p_NoJoin_NoName : PySem.W.subIn K (.ref (f 25)) (.ref (f 26)) = some false
  p_NoJoin_NoPaper : PySem.W.subIn K (.ref (f 25)) (.ref (f 24)) = some false
  p_NoJoin_NoRow : PySem.W.subIn K (.ref (f 25)) (.ref (f 33)) = some false
  p_NoJoin_NoStrike : PySem.W.subIn K (.ref (f 25)) (.ref (f 31)) = some false
  p_NoJoin_NoText : PySem.W.subIn K (.ref (f 25)) (.ref (f 32)) = some false
  p_NoJoin_ValueError : PySem.W.subIn K (.ref (f 25)) (.type "ValueError") = some true
  p_NoName_MarginError : PySem.W.subIn K (.ref (f 26)) (.ref (f 27)) = some true
  p_NoName_NoBase : PySem.W.subIn K (.ref (f 26)) (.ref (f 29)) = some false
  p_NoName_NoBranch : PySem.W.subIn K (.ref (f 26)) (.ref (f 30)) = some false
  p_NoName_NoChange : PySem.W.subIn K (.ref (f 26)) (.ref (f 28)) = some false
  p_NoName_NoJoin : PySem.W.subIn K (.ref (f 26)) (.ref (f 25)) = some false
  p_NoName_NoName : PySem.W.subIn K (.ref (f 26)) (.ref (f 26)) = some true
  p_NoName_NoPaper : PySem.W.subIn K (.ref (f 26)) (.ref (f 24)) = some false
  p_NoName_NoRow : PySem.W.subIn K (.ref (f 26)) (.ref (f 33)) = some false
  p_NoName_NoStrike : PySem.W.subIn K (.ref (f 26)) (.ref (f 31)) = some false
  p_NoName_NoText : PySem.W.subIn K (.ref (f 26)) (.ref (f 32)) = some false
  p_NoName_ValueError : PySem.W.subIn K (.ref (f 26)) (.type "ValueError") = some true
  p_NoPaper_MarginError : PySem.W.subIn K (.ref (f 24)) (.ref (f 27)) = some true
  p_NoPaper_NoBase : PySem.W.subIn K (.ref (f 24)) (.ref (f 29)) = some false
  p_NoPaper_NoBranch : PySem.W.subIn K (.ref (f 24)) (.ref (f 30)) = some false
  p_NoPaper_NoChange : PySem.W.subIn K (.ref (f 24)) (.ref (f 28)) = some false
  p_NoPaper_NoJoin : PySem.W.subIn K (.ref (f 24)) (.ref (f 25)) = some false
  p_NoPaper_NoName : PySem.W.subIn K (.ref (f 24)) (.ref (f 26)) = some false
  p_NoPaper_NoPaper : PySem.W.subIn K (.ref (f 24)) (.ref (f 24)) = some true
  p_NoPaper_NoRow : PySem.W.subIn K (.ref (f 24)) (.ref (f 33)) = some false
  p_NoPaper_NoStrike : PySem.W.subIn K (.ref (f 24)) (.ref (f 31)) = some false
  p_NoPaper_NoText : PySem.W.subIn K (.ref (f 24)) (.ref (f 32)) = some false
  p_NoPaper_ValueError : PySem.W.subIn K (.ref (f 24)) (.type "ValueError") = some true
  z_ValueError : mg "ValueError" = none
  z_bool : mg "bool" = none
  z_enumerate : mg "enumerate" = none
  z_int : mg "int" = none
  z_isinstance : mg "isinstance" = none
  z_len : mg "len" = none
  z_list : mg "list" = none
  z_max : mg "max" = none
  z_min : mg "min" = none
  z_range : mg "range" = none
  z_repr : mg "repr" = none
  z_reversed : mg "reversed" = none
  z_set : mg "set" = none
  z_sorted : mg "sorted" = none
  z_tuple : mg "tuple" = none
  tb__law_names_right : ∃ (c tP : Addr), (fd 19).code = .ref c ∧ LamX.TabB base mg c tP ∧ (tP, (("_law_names_right" : Str) ++ ".<locals>.") ++ "<lambda>") ∈ Cm.tb ⟨K, mg⟩ ∧ ∀ p ∈ Cm.tb ⟨K, mg⟩, p.1 = tP → p.2 = (("_law_names_right" : Str) ++ ".<locals>.") ++ "<lambda>"
  tb__law_joins_right : ∃ (c tP : Addr), (fd 21).code = .ref c ∧ LamX.TabB base mg c tP ∧ (tP, (("_law_joins_right" : Str) ++ ".<locals>.") ++ "<lambda>") ∈ Cm.tb ⟨K, mg⟩ ∧ ∀ p ∈ Cm.tb ⟨K, mg⟩, p.1 = tP → p.2 = (("_law_joins_right" : Str) ++ ".<locals>.") ++ "<lambda>"
  tb__law_papers_right : ∃ (c tP : Addr), (fd 22).code = .ref c ∧ LamX.TabB base mg c tP ∧ (tP, (("_law_papers_right" : Str) ++ ".<locals>.") ++ "<lambda>") ∈ Cm.tb ⟨K, mg⟩ ∧ ∀ p ∈ Cm.tb ⟨K, mg⟩, p.1 = tP → p.2 = (("_law_papers_right" : Str) ++ ".<locals>.") ++ "<lambda>"
section
variable {P : Program} {w : World} {K : PySem.W.Frag} {mg : Str → Option Value} {base : Heap} {f : Nat → Addr} {fd : Nat → FuncData}
theorem ec_NoPaper (Z : Txt K mg base f fd) : Ec K mg P w base "NoPaper" ["word", "at"] (f 24) := ⟨Z.E_NoPaper.gC, Z.E_NoPaper.ox, Z.E_NoPaper.no, f 34, fd 34, Z.E_NoPaper.iC, Z.E_NoPaper.tI, Z.E_NoPaper.F.ok sci_NoPaper (fun _ _ _ _ h => spI_len h) (fun cdv A outer s H vs Q E hr h => ⟨_, pss_cons (ps_expr (pe_binit Z.B_MarginError rfl Z.N_MarginError.g (pa_cons (pv 0) (pa_cons pe_str pa_nil)))) (pss_cons (ps_ost (pv 0) (pv 1)) (pss_one (ps_ost (pv 0) (pv 2)))), ini_end2 h⟩), Z.E_NoPaper.b⟩
theorem ec_NoJoin (Z : Txt K mg base f fd) : Ec K mg P w base "NoJoin" ["name", "word"] (f 25) := ⟨Z.E_NoJoin.gC, Z.E_NoJoin.ox, Z.E_NoJoin.no, f 35, fd 35, Z.E_NoJoin.iC, Z.E_NoJoin.tI, Z.E_NoJoin.F.ok sci_NoJoin (fun _ _ _ _ h => spI_len h) (fun cdv A outer s H vs Q E hr h => ⟨_, pss_cons (ps_expr (pe_binit Z.B_MarginError rfl Z.N_MarginError.g (pa_cons (pv 0) (pa_cons pe_str pa_nil)))) (pss_cons (ps_ost (pv 0) (pv 1)) (pss_one (ps_ost (pv 0) (pv 2)))), ini_end2 h⟩), Z.E_NoJoin.b⟩
theorem ec_NoName (Z : Txt K mg base f fd) : Ec K mg P w base "NoName" ["name"] (f 26) := ⟨Z.E_NoName.gC, Z.E_NoName.ox, Z.E_NoName.no, f 36, fd 36, Z.E_NoName.iC, Z.E_NoName.tI, Z.E_NoName.F.ok sci_NoName (fun _ _ _ _ h => spI_len h) (fun cdv A outer s H vs Q E hr h => ⟨_, pss_cons (ps_expr (pe_binit Z.B_MarginError rfl Z.N_MarginError.g (pa_cons (pv 0) (pa_cons pe_str pa_nil)))) (pss_one (ps_ost (pv 0) (pv 1))), ini_end1 h⟩), Z.E_NoName.b⟩
theorem ok_change_of (Z : Txt K mg base f fd) : GnOk P w K mg base 3 (f 0) (fd 0) ["ledger", "name"] (spM ⟨K, mg⟩ m_change_of) := fn_ok Z.d_change_of.F sc_change_of rfl rfl fun cdv A outer s H E T =>
  (ss_cons (s_for T.own rfl (i_seq (e_name (pv 0))) (g_name (pg_name (i := 2) sc_change_of.nd rfl (Or.inl rfl))) (ss_one (s_if (t_cmp (op_eqP T.u64) (by with_unfolding_all rfl) o_eq (e_ix T.u1 (e_name (pv 2)) e_int) (e_name (pv 1))) (ss_one (s_ret (e_name (pv 2)))) ss_nil))) (ss_one (s_raise rfl T (by decide) (ec_NoName Z) rfl (a_cons (e_name (pv 1)) a_nil))))
theorem ok_spread (Z : Txt K mg base f fd) : GnOk P w K mg base 1 (f 1) (fd 1) ["ledger", "names"] (spM ⟨K, mg⟩ m_spread) := fn_ok Z.d_spread.F sc_spread rfl rfl fun cdv A outer s H E T =>
  (ss_cons (s_set (k := 2) (ps_set (i := 2) sc_spread.nd rfl (Or.inl rfl)) e_dictT) (ss_cons (s_for T.own rfl (i_seq (e_name (pv 1))) (g_name (pg_name (i := 3) sc_spread.nd rfl (Or.inl rfl))) (ss_one (s_asg e_bl (g_put T.u1 (e_name (pv 2)) (e_name (pv 3)))))) (ss_cons (s_for T.own rfl (i_rev rfl Z.z_reversed (e_name (pv 0))) (g_tup rfl (gs_cons (g_name (pg_name (i := 3) sc_spread.nd rfl (Or.inl rfl))) (gs_cons (g_name (pg_name (i := 4) sc_spread.nd rfl (Or.inl rfl))) (gs_cons (g_name (pg_name (i := 5) sc_spread.nd rfl (Or.inl rfl))) (gs_cons (g_name (pg_name (i := 6) sc_spread.nd rfl (Or.inl rfl))) gs_nil))))) (ss_one (s_if (t_cmp (x_in T.u64) (by with_unfolding_all rfl) o_in (e_name (pv 3)) (e_name (pv 2))) (ss_one (s_for T.own rfl (i_seq (e_name (pv 5))) (g_name (pg_name (i := 7) sc_spread.nd rfl (Or.inl rfl))) (ss_one (s_asg e_bl (g_put T.u1 (e_name (pv 2)) (e_name (pv 7))))))) ss_nil))) (ss_one (s_ret (e_name (pv 2)))))))
theorem ok_known (Z : Txt K mg base f fd) : GnOk P w K mg base 4 (f 2) (fd 2) ["ledger", "name"] (spM ⟨K, mg⟩ m_known) := fn_ok Z.d_known.F sc_known rfl rfl fun cdv A outer s H E T =>
  (ss_cons (s_set (k := 2) (ps_set (i := 2) sc_known.nd rfl (Or.inr rfl)) (c_call Z.d_spread (ok_spread Z) T (by decide) rfl (a_cons (e_name (pv 0)) (a_cons (e_ix T.u1 (c_call Z.d_change_of (ok_change_of Z) T (by decide) rfl (a_cons (e_name (pv 0)) (a_cons (e_name (pv 1)) a_nil))) e_int) a_nil)))) (ss_one (s_ret (e_callTy x_tuple o_tuple rfl Z.z_tuple (by kernel_rfl) (a_cons (e_lc (own := [("change", 3)]) rfl sc_known.nd (i_seq (e_name (pv 0))) (blkOk_by (by kernel_rfl)) (fun s H C cl fp => ⟨(gx_name (pg_name (i := 3) sc_known.nd rfl (Or.inl rfl))), (ts_one (t_cmp (x_in T.blk.u64) (by with_unfolding_all rfl) o_in (e_ix T.blk.u1 (e_name (pv 3)) e_int) (e_name (pv 2)))), (e_name (pv 3))⟩)) a_nil)))))
theorem ok_knows (Z : Txt K mg base f fd) : GnOk P w K mg base 4 (f 3) (fd 3) ["ledger", "one", "other"] (spM ⟨K, mg⟩ m_knows) := fn_ok Z.d_knows.F sc_knows rfl rfl fun cdv A outer s H E T =>
  (ss_cons (s_set (k := 3) (ps_set (i := 3) sc_knows.nd rfl (Or.inl rfl)) (e_ix T.u1 (c_call Z.d_change_of (ok_change_of Z) T (by decide) rfl (a_cons (e_name (pv 0)) (a_cons (e_name (pv 1)) a_nil))) e_int)) (ss_cons (s_expr (c_call Z.d_change_of (ok_change_of Z) T (by decide) rfl (a_cons (e_name (pv 0)) (a_cons (e_name (pv 2)) a_nil)))) (ss_one (s_ret (e_cmp (x_in T.u64) (by with_unfolding_all rfl) o_in (e_name (pv 2)) (c_call Z.d_spread (ok_spread Z) T (by decide) rfl (a_cons (e_name (pv 0)) (a_cons (e_name (pv 3)) a_nil))))))))
theorem ok_tops (Z : Txt K mg base f fd) : GnOk P w K mg base 1 (f 4) (fd 4) ["ledger"] (spM ⟨K, mg⟩ m_tops) := fn_ok Z.d_tops.F sc_tops rfl rfl fun cdv A outer s H E T =>
  (ss_cons (s_set (k := 1) (ps_set (i := 1) sc_tops.nd rfl (Or.inr rfl)) e_dictT) (ss_cons (s_for T.own rfl (i_seq (e_name (pv 0))) (g_tup rfl (gs_cons (g_name (pg_name (i := 2) sc_tops.nd rfl (Or.inl rfl))) (gs_cons (g_name (pg_name (i := 3) sc_tops.nd rfl (Or.inl rfl))) (gs_cons (g_name (pg_name (i := 4) sc_tops.nd rfl (Or.inl rfl))) (gs_cons (g_name (pg_name (i := 5) sc_tops.nd rfl (Or.inl rfl))) gs_nil))))) (ss_one (s_for T.own rfl (i_seq (e_name (pv 4))) (g_name (pg_name (i := 6) sc_tops.nd rfl (Or.inl rfl))) (ss_one (s_asg e_bl (g_put T.u1 (e_name (pv 1)) (e_name (pv 6)))))))) (ss_one (s_ret (e_callTy x_tuple o_tuple rfl Z.z_tuple (by kernel_rfl) (a_cons (e_lc (own := [("change", 7)]) rfl sc_tops.nd (i_seq (e_name (pv 0))) (blkOk_by (by kernel_rfl)) (fun s H C cl fp => ⟨(gx_name (pg_name (i := 7) sc_tops.nd rfl (Or.inl rfl))), (ts_one (t_cmp (x_notIn T.blk.u64) (by with_unfolding_all rfl) o_in (e_ix T.blk.u1 (e_name (pv 7)) e_int) (e_name (pv 1)))), (e_ix T.blk.u1 (e_name (pv 7)) e_int)⟩)) a_nil))))))
theorem ok_is_number (Z : Txt K mg base f fd) : GnOk P w K mg base 1 (f 5) (fd 5) ["thing"] (spM ⟨K, mg⟩ m_is_number) := fn_ok Z.d_is_number.F sc_is_number rfl rfl fun cdv A outer s H E T =>
  (ss_one (s_ret (e_and (e_isi (e_name (pv 0)) (by decide) rfl Z.z_isinstance rfl Z.z_int (by kernel_rfl)) (e_one (e_not (e_isi (e_name (pv 0)) (by decide) rfl Z.z_isinstance rfl Z.z_bool (by kernel_rfl)))))))
theorem ok_exchanged (Z : Txt K mg base f fd) : GnOk P w K mg base 1 (f 6) (fd 6) ["road", "k"] (spM ⟨K, mg⟩ m_exchanged) := fn_ok Z.d_exchanged.F sc_exchanged rfl rfl fun cdv A outer s H E T =>
  (ss_one (s_ret (e_bin x_add o_add (e_bin x_add o_add (e_sl (e_name (pv 0)) o_none (o_some (e_name (pv 1)))) (e_tup (a_cons (e_ix T.u1 (e_name (pv 0)) (e_bin x_add o_add (e_name (pv 1)) e_int)) (a_cons (e_ix T.u1 (e_name (pv 0)) (e_name (pv 1))) a_nil)))) (e_sl (e_name (pv 0)) (o_some (e_bin x_add o_add (e_name (pv 1)) e_int)) o_none))))
theorem ok_need (Z : Txt K mg base f fd) : GnOk P w K mg base 3 (f 7) (fd 7) ["truth", "word", "at"] (spM ⟨K, mg⟩ m_need) := fn_ok Z.d_need.F sc_need rfl rfl fun cdv A outer s H E T =>
  (ss_one (s_if (t_not (t_tru (e_name (pv 0)))) (ss_one (s_raise rfl T (by decide) (ec_NoPaper Z) rfl (a_cons (e_name (pv 1)) (a_cons (e_name (pv 2)) a_nil)))) ss_nil))
theorem ok_lets_exchanges (Z : Txt K mg base f fd) : GnOk P w K mg base 5 (f 8) (fd 8) ["ledger", "one", "other", "thing"] (spM ⟨K, mg⟩ m_lets_exchanges) := fn_ok Z.d_lets_exchanges.F sc_lets_exchanges rfl rfl fun cdv A outer s H E T =>
  (ss_cons (s_expr (c_call Z.d_need (ok_need Z) T (by decide) rfl (a_cons (e_isi (e_name (pv 3)) (by decide) rfl Z.z_isinstance rfl Z.z_tuple (by kernel_rfl)) (a_cons e_str (a_cons (e_un un_neg o_neg e_int) a_nil))))) (ss_cons (s_for T.own rfl (i_enumT rfl Z.z_enumerate (a_cons (e_name (pv 3)) a_nil)) (g_tup rfl (gs_cons (g_name (pg_name (i := 4) sc_lets_exchanges.nd rfl (Or.inl rfl))) (gs_cons (g_name (pg_name (i := 5) sc_lets_exchanges.nd rfl (Or.inl rfl))) gs_nil))) (ss_one (s_expr (c_call Z.d_need (ok_need Z) T (by decide) rfl (a_cons (e_and (c_call Z.d_is_number (ok_is_number Z) T (by decide) rfl (a_cons (e_name (pv 5)) a_nil)) (e_one (e_chain x_le x_le o_ord o_ord e_int (e_name (pv 5)) (e_bin op_sub o_sub (e_callB x_len o_len rfl Z.z_len (by kernel_rfl) (a_cons (e_name (pv 1)) a_nil)) e_int)))) (a_cons e_str (a_cons (e_name (pv 4)) a_nil))))))) (ss_cons (s_set (k := 6) (ps_set (i := 6) sc_lets_exchanges.nd rfl (Or.inl rfl)) (e_name (pv 1))) (ss_cons (s_for T.own rfl (i_enumT rfl Z.z_enumerate (a_cons (e_name (pv 3)) a_nil)) (g_tup rfl (gs_cons (g_name (pg_name (i := 4) sc_lets_exchanges.nd rfl (Or.inl rfl))) (gs_cons (g_name (pg_name (i := 5) sc_lets_exchanges.nd rfl (Or.inl rfl))) gs_nil))) (ss_cons (s_expr (c_call Z.d_need (ok_need Z) T (by decide) rfl (a_cons (e_not (c_call Z.d_knows (ok_knows Z) T (by decide) rfl (a_cons (e_name (pv 0)) (a_cons (e_ix T.u1 (e_name (pv 6)) (e_bin x_add o_add (e_name (pv 5)) e_int)) (a_cons (e_ix T.u1 (e_name (pv 6)) (e_name (pv 5))) a_nil))))) (a_cons e_str (a_cons (e_name (pv 4)) a_nil))))) (ss_one (s_set (k := 6) (ps_set (i := 6) sc_lets_exchanges.nd rfl (Or.inl rfl)) (c_call Z.d_exchanged (ok_exchanged Z) T (by decide) rfl (a_cons (e_name (pv 6)) (a_cons (e_name (pv 5)) a_nil))))))) (ss_cons (s_expr (c_call Z.d_need (ok_need Z) T (by decide) rfl (a_cons (e_cmp (op_eqP T.u64) (by with_unfolding_all rfl) o_eq (e_name (pv 6)) (e_name (pv 2))) (a_cons e_str (a_cons (e_un un_neg o_neg e_int) a_nil))))) (ss_one (s_ret (e_callB x_len o_len rfl Z.z_len (by kernel_rfl) (a_cons (e_name (pv 3)) a_nil)))))))))
theorem ok_by_names (Z : Txt K mg base f fd) : GnOk P w K mg base 1 (f 9) (fd 9) ["ledger"] (spM ⟨K, mg⟩ m_by_names) := fn_ok Z.d_by_names.F sc_by_names rfl rfl fun cdv A outer s H E T =>
  (ss_cons (s_set (k := 1) (ps_set (i := 1) sc_by_names.nd rfl (Or.inl rfl)) e_dictT) (ss_cons (s_for T.own rfl (i_seq (e_name (pv 0))) (g_name (pg_name (i := 2) sc_by_names.nd rfl (Or.inl rfl))) (ss_one (s_asg (e_name (pv 2)) (g_put T.u1 (e_name (pv 1)) (e_ix T.u1 (e_name (pv 2)) e_int))))) (ss_one (s_ret (e_name (pv 1))))))
theorem ok_joined (Z : Txt K mg base f fd) : GnOk P w K mg base 3 (f 10) (fd 10) ["one", "other"] (spM ⟨K, mg⟩ m_joined) := fn_ok Z.d_joined.F sc_joined rfl rfl fun cdv A outer s H E T =>
  (ss_cons (s_par (fun ha => ps_par rfl sc_joined.nd rfl rfl (by decide) rfl rfl ha (by with_unfolding_all rfl)) (a_cons (c_call Z.d_by_names (ok_by_names Z) T (by decide) rfl (a_cons (e_name (pv 0)) a_nil)) (a_cons (c_call Z.d_by_names (ok_by_names Z) T (by decide) rfl (a_cons (e_name (pv 1)) a_nil)) a_nil))) (ss_cons (s_set (k := 4) (ps_set (i := 4) sc_joined.nd rfl (Or.inl rfl)) (e_lstR a_nil)) (ss_cons (s_set (k := 5) (ps_set (i := 5) sc_joined.nd rfl (Or.inl rfl)) e_dictK) (ss_cons (s_for T.own rfl (i_seq (Px.e_sortset rfl T.u64 rfl Z.z_sorted rfl Z.z_set (e_bin x_add o_add (e_callTy (x_listD rfl) o_listD rfl Z.z_list (by kernel_rfl) (a_cons (e_name (pv 2)) a_nil)) (e_callTy (x_listD rfl) o_listD rfl Z.z_list (by kernel_rfl) (a_cons (e_name (pv 3)) a_nil))))) (g_name (pg_name (i := 6) sc_joined.nd rfl (Or.inl rfl))) (ss_cons (s_set (k := 7) (ps_set (i := 7) sc_joined.nd rfl (Or.inl rfl)) (e_ifE (t_cmp (x_in T.u64) (by with_unfolding_all rfl) o_in (e_name (pv 6)) (e_name (pv 2))) (e_ix T.u1 (e_name (pv 2)) (e_name (pv 6))) (e_ix T.u1 (e_name (pv 3)) (e_name (pv 6))))) (ss_cons (s_if (PW.pt (t_and (t_cmp (x_in T.u64) (by with_unfolding_all rfl) o_in (e_name (pv 6)) (e_name (pv 3))) (t_and1 (t_cmp (op_neP T.u64) (by with_unfolding_all rfl) o_ne (e_ix T.u1 (e_name (pv 3)) (e_name (pv 6))) (e_name (pv 7)))))) (ss_one (s_raise rfl T (by decide) (ec_NoJoin Z) rfl (a_cons (e_name (pv 6)) (a_cons e_str a_nil)))) ss_nil) (ss_cons (s_set (k := 8) (ps_set (i := 8) sc_joined.nd rfl (Or.inl rfl)) (e_ifE (t_cmp (x_in T.u64) (by with_unfolding_all rfl) o_in (e_name (pv 6)) (e_name (pv 2))) (e_name (pv 2)) (e_name (pv 3)))) (ss_cons (s_if (PW.pt (t_and (t_cmp (x_in T.u64) (by with_unfolding_all rfl) o_in (e_ix T.u1 (e_name (pv 6)) e_int) (e_name (pv 5))) (t_and1 (t_cmp (x_notIn T.u64) (by with_unfolding_all rfl) o_in (e_ix T.u1 (e_name (pv 5)) (e_ix T.u1 (e_name (pv 6)) e_int)) (e_name (pv 8)))))) (ss_one (s_raise rfl T (by decide) (ec_NoJoin Z) rfl (a_cons (e_name (pv 6)) (a_cons e_str a_nil)))) ss_nil) (ss_cons (s_asg (e_name (pv 6)) (g_put T.u1 (e_name (pv 5)) (e_ix T.u1 (e_name (pv 6)) e_int))) (ss_one (s_expr (e_meth PySem.F.plainAttrs_list PySem.F.slot_list_append PySem.F.type_list_append mt_append ty_l o_append (e_name (pv 4)) (a_cons (e_name (pv 7)) a_nil)))))))))) (ss_one (s_ret (e_callTy x_tuple o_tuple rfl Z.z_tuple (by kernel_rfl) (a_cons (e_name (pv 4)) a_nil))))))))
theorem ok__law_feed (Z : Txt K mg base f fd) : GnOk P w K mg base 1 (f 11) (fd 11) ["_law_script"] (spM ⟨K, mg⟩ m__law_feed) := fn_ok Z.d__law_feed.F sc__law_feed rfl rfl fun cdv A outer s H E T =>
  (ss_one (s_ret (e_disp (d_cons (e_callTy x_list o_listV rfl Z.z_list (by kernel_rfl) (a_cons (e_sl (e_name (pv 0)) o_none (o_some e_int)) a_nil)) (d_cons e_int (d_cons e_int (d_cons e_int d_nil)))))))
theorem ok__law_draw (Z : Txt K mg base f fd) : GnOk P w K mg base 1 (f 12) (fd 12) ["_law_feed_here", "_law_many"] (spM ⟨K, mg⟩ m__law_draw) := fn_ok Z.d__law_draw.F sc__law_draw rfl rfl fun cdv A outer s H E T =>
  (ss_cons (s_asg (e_bin x_add o_add (e_ix T.u1 (e_name (pv 0)) e_str) e_int) (g_put T.u1 (e_name (pv 0)) e_str)) (ss_cons (s_if (t_cmp x_gt (by with_unfolding_all rfl) o_ord (e_ix T.u1 (e_name (pv 0)) e_str) e_int) (ss_cons (s_set (k := 2) (ps_set (i := 2) sc__law_draw.nd rfl (Or.inl rfl)) (e_bin op_modN o_mod (e_ix T.u1 (e_name (pv 0)) e_str) (e_name (pv 1)))) (ss_cons (s_asg (e_bin op_fdivN o_div (e_ix T.u1 (e_name (pv 0)) e_str) (e_name (pv 1))) (g_put T.u1 (e_name (pv 0)) e_str)) (ss_one (s_ret (e_name (pv 2)))))) ss_nil) (ss_cons (s_set (k := 3) (ps_set (i := 3) sc__law_draw.nd rfl (Or.inl rfl)) (e_ix T.u1 (e_name (pv 0)) e_str)) (ss_cons (s_asg (e_bin x_add o_add (e_name (pv 3)) e_int) (g_put T.u1 (e_name (pv 0)) e_str)) (ss_cons (s_set (k := 4) (ps_set (i := 4) sc__law_draw.nd rfl (Or.inl rfl)) (e_ifE (t_cmp (op_neP T.u64) (by with_unfolding_all rfl) o_ne (e_ix T.u1 (e_name (pv 0)) e_str) (e_lst a_nil)) (e_ix T.u1 (e_ix T.u1 (e_name (pv 0)) e_str) (e_bin op_modN o_mod (e_name (pv 3)) (e_callB x_len o_len rfl Z.z_len (by kernel_rfl) (a_cons (e_ix T.u1 (e_name (pv 0)) e_str) a_nil)))) e_int)) (ss_cons (s_if (PW.pt (t_and (t_cmp x_ge (by with_unfolding_all rfl) o_ord (e_name (pv 4)) (e_bin op_pow o_pow e_int e_int)) (t_and1 (t_cmp x_lt (by with_unfolding_all rfl) o_ord (e_name (pv 3)) (e_callB x_len o_len rfl Z.z_len (by kernel_rfl) (a_cons (e_ix T.u1 (e_name (pv 0)) e_str) a_nil)))))) (ss_cons (s_asg (e_bin op_fdivN o_div (e_name (pv 4)) (e_name (pv 1))) (g_put T.u1 (e_name (pv 0)) e_str)) (ss_one (s_ret (e_bin op_modN o_mod (e_name (pv 4)) (e_name (pv 1)))))) ss_nil) (ss_cons (s_set (k := 5) (ps_set (i := 5) sc__law_draw.nd rfl (Or.inl rfl)) (e_bin op_modN o_mod (e_bin x_add o_add (e_bin x_add o_add (e_bin op_modN o_mod (e_name (pv 4)) e_int) (e_bin x_mul o_mul e_int (e_ix T.u1 (e_name (pv 0)) e_str))) e_int) e_int)) (ss_cons (s_set (k := 5) (ps_set (i := 5) sc__law_draw.nd rfl (Or.inl rfl)) (e_bin op_modN o_mod (e_bin x_add o_add (e_bin x_add o_add (e_bin x_mul o_mul (e_name (pv 5)) (e_name (pv 5))) (e_bin x_mul o_mul e_int (e_ix T.u1 (e_name (pv 0)) e_str))) e_int) e_int)) (ss_one (s_ret (e_bin op_modN o_mod (e_bin op_fdivN o_div (e_bin op_modN o_mod (e_bin x_add o_add (e_bin x_mul o_mul (e_name (pv 5)) (e_name (pv 5))) (e_bin x_mul o_mul e_int (e_name (pv 5)))) e_int) e_int) (e_name (pv 1)))))))))))))
theorem ok__law_words (Z : Txt K mg base f fd) : GnOk P w K mg base 2 (f 13) (fd 13) ["_law_feed_here", "_law_many"] (spM ⟨K, mg⟩ m__law_words) := fn_ok Z.d__law_words.F sc__law_words rfl rfl fun cdv A outer s H E T =>
  (ss_cons (s_set (k := 2) (ps_set (i := 2) sc__law_words.nd rfl (Or.inr rfl)) e_str) (ss_cons (s_set (k := 3) (ps_set (i := 3) sc__law_words.nd rfl (Or.inl rfl)) (c_call Z.d__law_draw (ok__law_draw Z) T (by decide) rfl (a_cons (e_name (pv 0)) (a_cons e_int a_nil)))) (ss_cons (s_if (t_cmp (op_eqP T.u64) (by with_unfolding_all rfl) o_eq (e_name (pv 3)) e_int) (ss_cons (s_set (k := 4) (ps_set (i := 4) sc__law_words.nd rfl (Or.inr rfl)) (e_ix T.u1 (e_name (pv 2)) (c_call Z.d__law_draw (ok__law_draw Z) T (by decide) rfl (a_cons (e_name (pv 0)) (a_cons e_int a_nil))))) (ss_one (s_ret (e_step (e_lc (own := [("_law_k", 5)]) rfl sc__law_words.nd (r_rng1 rfl Z.z_range (a_cons (e_name (pv 1)) a_nil)) (blkOk_by (by kernel_rfl)) (fun s H C cl fp => ⟨(gx_name (pg_name (i := 5) sc__law_words.nd rfl (Or.inl rfl))), ts_nil, (e_bin x_mul o_mul (e_name (pv 4)) (e_bin x_add o_add (e_name (pv 5)) e_int))⟩)) (e_bin op_sub o_sub e_int (e_bin x_mul o_mul e_int (c_call Z.d__law_draw (ok__law_draw Z) T (by decide) rfl (a_cons (e_name (pv 0)) (a_cons e_int a_nil))))))))) ss_nil) (ss_cons (s_set (k := 6) (ps_set (i := 6) sc__law_words.nd rfl (Or.inl rfl)) (e_meth PySem.F.plainAttrs_str PySem.F.slot_str_join PySem.F.type_str_join x_join ty_s o_join e_str (a_cons (e_lc (own := [("_law_k", 5)]) rfl sc__law_words.nd (r_rng1 rfl Z.z_range (a_cons (c_call Z.d__law_draw (ok__law_draw Z) T (by decide) rfl (a_cons (e_name (pv 0)) (a_cons e_int a_nil))) a_nil)) (blkOk_by (by kernel_rfl)) (fun s H C cl fp => ⟨(gx_name (pg_name (i := 5) sc__law_words.nd rfl (Or.inl rfl))), ts_nil, (e_ix T.blk.u1 (e_name (pv 2)) (c_call Z.d__law_draw (ok__law_draw Z) T.blk (by decide) rfl (a_cons (e_name (pv 0)) (a_cons e_int a_nil))))⟩)) a_nil))) (ss_cons (s_set (k := 7) (ps_set (i := 7) sc__law_words.nd rfl (Or.inl rfl)) (c_call Z.d__law_draw (ok__law_draw Z) T (by decide) rfl (a_cons (e_name (pv 0)) (a_cons (e_bin x_add o_add (e_callB x_len o_len rfl Z.z_len (by kernel_rfl) (a_cons (e_name (pv 6)) a_nil)) e_int) a_nil)))) (ss_cons (s_set (k := 8) (ps_set (i := 8) sc__law_words.nd rfl (Or.inl rfl)) (c_call Z.d__law_draw (ok__law_draw Z) T (by decide) rfl (a_cons (e_name (pv 0)) (a_cons e_int a_nil)))) (ss_cons (s_set (k := 9) (ps_set (i := 9) sc__law_words.nd rfl (Or.inl rfl)) (e_ix T.u1 (e_lst (a_cons e_int (a_cons e_int (a_cons e_int (a_cons e_int (a_cons e_int (a_cons e_int a_nil))))))) (c_call Z.d__law_draw (ok__law_draw Z) T (by decide) rfl (a_cons (e_name (pv 0)) (a_cons e_int a_nil))))) (ss_cons (s_set (k := 10) (ps_set (i := 10) sc__law_words.nd rfl (Or.inl rfl)) (e_lstR a_nil)) (ss_cons (s_for T.own rfl (r_rng1 rfl Z.z_range (a_cons (e_name (pv 1)) a_nil)) (g_name (pg_name (i := 5) sc__law_words.nd rfl (Or.inl rfl))) (ss_cons (s_set (k := 11) (ps_set (i := 11) sc__law_words.nd rfl (Or.inl rfl)) (e_bin x_mul o_mul (e_ix T.u1 (e_name (pv 2)) (c_call Z.d__law_draw (ok__law_draw Z) T (by decide) rfl (a_cons (e_name (pv 0)) (a_cons e_int a_nil)))) (c_call Z.d__law_draw (ok__law_draw Z) T (by decide) rfl (a_cons (e_name (pv 0)) (a_cons e_int a_nil))))) (ss_cons (s_set (k := 12) (ps_set (i := 12) sc__law_words.nd rfl (Or.inl rfl)) (e_ix T.u1 (e_name (pv 2)) (e_bin op_modN o_mod (e_bin x_add o_add (e_name (pv 8)) (e_bin x_mul o_mul (e_name (pv 5)) (e_name (pv 9)))) e_int))) (ss_one (s_expr (e_meth PySem.F.plainAttrs_list PySem.F.slot_list_append PySem.F.type_list_append mt_append ty_l o_append (e_name (pv 10)) (a_cons (e_bin x_add o_add (e_bin x_add o_add (e_bin x_add o_add (e_sl (e_name (pv 6)) o_none (o_some (e_name (pv 7)))) (e_name (pv 12))) (e_sl (e_name (pv 6)) (o_some (e_name (pv 7))) o_none)) (e_name (pv 11))) a_nil))))))) (ss_one (s_ret (e_name (pv 10)))))))))))))
theorem ok__law_deed (Z : Txt K mg base f fd) : GnOk P w K mg base 2 (f 14) (fd 14) ["_law_feed_here", "_law_world_here", "_law_base", "_law_floor"] (spM ⟨K, mg⟩ m__law_deed) := fn_ok Z.d__law_deed.F sc__law_deed rfl rfl fun cdv A outer s H E T =>
  (ss_cons (s_set (k := 4) (ps_set (i := 4) sc__law_deed.nd rfl (Or.inr rfl)) e_str) (ss_cons (s_set (k := 5) (ps_set (i := 5) sc__law_deed.nd rfl (Or.inl rfl)) (e_meth PySem.F.plainAttrs_str PySem.F.slot_str_join PySem.F.type_str_join x_join ty_s o_join e_str (a_cons (e_lc (own := [("_law_k", 10)]) rfl sc__law_deed.nd (r_rng1 rfl Z.z_range (a_cons (e_bin x_add o_add e_int (c_call Z.d__law_draw (ok__law_draw Z) T (by decide) rfl (a_cons (e_name (pv 0)) (a_cons e_int a_nil)))) a_nil)) (blkOk_by (by kernel_rfl)) (fun s H C cl fp => ⟨(gx_name (pg_name (i := 10) sc__law_deed.nd rfl (Or.inl rfl))), ts_nil, (e_ix T.blk.u1 (e_name (pv 4)) (c_call Z.d__law_draw (ok__law_draw Z) T.blk (by decide) rfl (a_cons (e_name (pv 0)) (a_cons e_int a_nil))))⟩)) a_nil))) (ss_cons (s_set (k := 6) (ps_set (i := 6) sc__law_deed.nd rfl (Or.inl rfl)) (c_call Z.d__law_draw (ok__law_draw Z) T (by decide) rfl (a_cons (e_name (pv 0)) (a_cons e_int a_nil)))) (ss_cons (s_set (k := 7) (ps_set (i := 7) sc__law_deed.nd rfl (Or.inr rfl)) (e_lc (own := [("_law_name", 9)]) rfl sc__law_deed.nd (i_seq (e_name (pv 3))) (blkOk_by (by kernel_rfl)) (fun s H C cl fp => ⟨(gx_name (pg_name (i := 9) sc__law_deed.nd rfl (Or.inl rfl))), ts_nil, (e_ix T.blk.u1 (e_ix T.blk.u1 (e_ix T.blk.u1 (e_ix T.blk.u1 (e_name (pv 1)) e_str) (e_name (pv 9))) e_int) e_int)⟩))) (ss_cons (s_setLc (k := 8) (own := [("_law_k", 10)]) rfl sc__law_deed.nd rfl rfl (by with_unfolding_all rfl) (r_rng1 rfl Z.z_range (a_cons (e_callB x_len o_len rfl Z.z_len (by kernel_rfl) (a_cons (e_name (pv 3)) a_nil)) a_nil)) (blkOk_by (by kernel_rfl)) (fun s H C cl fp => ⟨(gx_name (pg_name (i := 10) sc__law_deed.nd rfl (Or.inl rfl))), (ts_one (t_cmp (op_eqP T.blk.u64) (by with_unfolding_all rfl) o_eq (e_ix T.blk.u1 (e_name (pv 7)) (e_name (pv 10))) e_str)), (e_ix T.blk.u1 (e_name (pv 3)) (e_name (pv 10)))⟩)) (ss_cons (s_if (PW.pt (t_and (t_cmp (op_eqP T.u64) (by with_unfolding_all rfl) o_eq (e_name (pv 6)) e_int) (t_and1 (t_cmp x_gt (by with_unfolding_all rfl) o_ord (e_callB x_len o_len rfl Z.z_len (by kernel_rfl) (a_cons (e_name (pv 2)) a_nil)) e_int)))) (ss_one (s_ret (e_tup (a_cons e_str a_nil)))) ss_nil) (ss_cons (s_if (PW.pt (t_and (t_cmp (op_eqP T.u64) (by with_unfolding_all rfl) o_eq (e_name (pv 6)) e_int) (t_and (t_cmp (x_in T.u64) (by with_unfolding_all rfl) o_in e_str (e_name (pv 7))) (t_and1 (t_cmp x_lt (by with_unfolding_all rfl) o_ord (e_callB x_len o_len rfl Z.z_len (by kernel_rfl) (a_cons (e_ix T.u1 (e_name (pv 1)) e_str) a_nil)) e_int))))) (ss_one (s_ret (e_tup (a_cons e_str (a_cons e_int (a_cons e_int (a_cons (e_ix T.u1 (e_lst (a_cons e_str (a_cons e_str a_nil))) (c_call Z.d__law_draw (ok__law_draw Z) T (by decide) rfl (a_cons (e_name (pv 0)) (a_cons e_int a_nil)))) (a_cons (e_name (pv 5)) a_nil)))))))) ss_nil) (ss_cons (s_if (PW.pt (t_and (t_cmp (op_eqP T.u64) (by with_unfolding_all rfl) o_eq (e_name (pv 6)) e_int) (t_and1 (t_cmp (op_neP T.u64) (by with_unfolding_all rfl) o_ne (e_name (pv 8)) (e_lst a_nil))))) (ss_one (s_ret (e_tup (a_cons e_str (a_cons (e_ix T.u1 (e_name (pv 8)) (c_call Z.d__law_draw (ok__law_draw Z) T (by decide) rfl (a_cons (e_name (pv 0)) (a_cons (e_callB x_len o_len rfl Z.z_len (by kernel_rfl) (a_cons (e_name (pv 8)) a_nil)) a_nil)))) (a_cons (e_name (pv 5)) a_nil)))))) ss_nil) (ss_one (s_ret (e_tup (a_cons e_str (a_cons e_int (a_cons (e_name (pv 5)) a_nil))))))))))))))
theorem ok__law_step (Z : Txt K mg base f fd) : GnOk P w K mg base 3 (f 15) (fd 15) ["_law_feed_here", "_law_world_here", "_law_words_here"] (spM ⟨K, mg⟩ m__law_step) := fn_ok Z.d__law_step.F sc__law_step rfl rfl fun cdv A outer s H E T =>
  (ss_cons (s_set (k := 3) (ps_set (i := 3) sc__law_step.nd rfl (Or.inl rfl)) (e_ix T.u1 (e_name (pv 2)) (c_call Z.d__law_draw (ok__law_draw Z) T (by decide) rfl (a_cons (e_name (pv 0)) (a_cons (e_callB x_len o_len rfl Z.z_len (by kernel_rfl) (a_cons (e_name (pv 2)) a_nil)) a_nil))))) (ss_cons (s_set (k := 4) (ps_set (i := 4) sc__law_step.nd rfl (Or.inl rfl)) (e_callB (x_sorted rfl T.u64) o_sorted rfl Z.z_sorted (by kernel_rfl) (a_cons (e_ix T.u1 (e_name (pv 1)) e_str) a_nil))) (ss_cons (s_set (k := 5) (ps_set (i := 5) sc__law_step.nd rfl (Or.inl rfl)) (e_ifE (t_cmp (x_in T.u64) (by with_unfolding_all rfl) o_in (e_name (pv 3)) (e_ix T.u1 (e_name (pv 1)) e_str)) (e_lstR (a_cons (e_ix T.u1 (e_ix T.u1 (e_name (pv 1)) e_str) (e_name (pv 3))) a_nil)) (e_lstR a_nil))) (ss_cons (s_if (PW.pt (t_and (t_cmp (op_neP T.u64) (by with_unfolding_all rfl) o_ne (e_name (pv 4)) (e_lst a_nil)) (t_and1 (t_cmp x_lt (by with_unfolding_all rfl) o_ord (c_call Z.d__law_draw (ok__law_draw Z) T (by decide) rfl (a_cons (e_name (pv 0)) (a_cons e_int a_nil))) e_int)))) (ss_one (s_expr (e_meth PySem.F.plainAttrs_list PySem.F.slot_list_append PySem.F.type_list_append mt_append ty_l o_append (e_name (pv 5)) (a_cons (e_ix T.u1 (e_name (pv 4)) (c_call Z.d__law_draw (ok__law_draw Z) T (by decide) rfl (a_cons (e_name (pv 0)) (a_cons (e_callB x_len o_len rfl Z.z_len (by kernel_rfl) (a_cons (e_name (pv 4)) a_nil)) a_nil)))) a_nil)))) ss_nil) (ss_cons (s_set (k := 6) (ps_set (i := 6) sc__law_step.nd rfl (Or.inl rfl)) e_dictT) (ss_cons (s_for T.own rfl (i_seq (e_name (pv 5))) (g_name (pg_name (i := 7) sc__law_step.nd rfl (Or.inl rfl))) (ss_one (s_for T.own rfl (i_seq (e_bin x_add o_add (e_ix T.u1 (e_ix T.u1 (e_name (pv 1)) e_str) (e_name (pv 7))) (e_lst (a_cons (e_name (pv 7)) a_nil)))) (g_name (pg_name (i := 8) sc__law_step.nd rfl (Or.inl rfl))) (ss_one (s_asg e_bl (g_put T.u1 (e_name (pv 6)) (e_name (pv 8)))))))) (ss_cons (s_set (k := 9) (ps_set (i := 9) sc__law_step.nd rfl (Or.inl rfl)) (e_callB (x_sorted rfl T.u64) o_sorted rfl Z.z_sorted (by kernel_rfl) (a_cons (e_name (pv 6)) a_nil))) (ss_cons (s_set (k := 10) (ps_set (i := 10) sc__law_step.nd rfl (Or.inr rfl)) e_dictT) (ss_cons (s_for T.own rfl (i_seq (e_name (pv 9))) (g_name (pg_name (i := 8) sc__law_step.nd rfl (Or.inl rfl))) (ss_one (s_for T.own rfl (i_seq (e_ix T.u1 (e_ix T.u1 (e_name (pv 1)) e_str) (e_name (pv 8)))) (g_name (pg_name (i := 7) sc__law_step.nd rfl (Or.inl rfl))) (ss_one (s_asg e_bl (g_put T.u1 (e_name (pv 10)) (e_name (pv 7)))))))) (ss_cons (s_set (k := 11) (ps_set (i := 11) sc__law_step.nd rfl (Or.inl rfl)) (e_callTy x_tuple o_tuple rfl Z.z_tuple (by kernel_rfl) (a_cons (e_lc (own := [("_law_name", 8)]) rfl sc__law_step.nd (i_seq (e_name (pv 9))) (blkOk_by (by kernel_rfl)) (fun s H C cl fp => ⟨(gx_name (pg_name (i := 8) sc__law_step.nd rfl (Or.inl rfl))), (ts_one (t_cmp (x_notIn T.blk.u64) (by with_unfolding_all rfl) o_in (e_name (pv 8)) (e_name (pv 10)))), (e_name (pv 8))⟩)) a_nil))) (ss_cons (s_set (k := 12) (ps_set (i := 12) sc__law_step.nd rfl (Or.inl rfl)) (e_tup (a_cons (e_bin x_add o_add e_int (e_callBK (cr_maxDf rfl T.u64) o_maxDf rfl Z.z_max (by kernel_rfl) (a_cons (e_lc (own := [("_law_name", 8)]) rfl sc__law_step.nd (i_seq (e_name (pv 9))) (blkOk_by (by kernel_rfl)) (fun s H C cl fp => ⟨(gx_name (pg_name (i := 8) sc__law_step.nd rfl (Or.inl rfl))), ts_nil, (e_ix T.blk.u1 (e_name (pv 8)) e_int)⟩)) a_nil) (k_cons e_int k_nil))) (a_cons (e_name (pv 3)) a_nil)))) (ss_cons (s_set (k := 13) (ps_set (i := 13) sc__law_step.nd rfl (Or.inl rfl)) (c_call Z.d__law_deed (ok__law_deed Z) T (by decide) rfl (a_cons (e_name (pv 0)) (a_cons (e_name (pv 1)) (a_cons (e_name (pv 11)) (a_cons (e_name (pv 9)) a_nil)))))) (ss_cons (s_if (t_cmp (op_eqP T.u64) (by with_unfolding_all rfl) o_eq (e_ix T.u1 (e_name (pv 13)) e_int) e_str) (ss_one (s_expr (e_meth PySem.F.plainAttrs_list PySem.F.slot_list_append PySem.F.type_list_append mt_append ty_l o_append (e_ix T.u1 (e_name (pv 1)) e_str) (a_cons (e_name (pv 12)) a_nil)))) ss_nil) (ss_cons (s_asg (e_tup (a_cons (e_name (pv 12)) (a_cons (e_ix T.u1 (e_name (pv 2)) (c_call Z.d__law_draw (ok__law_draw Z) T (by decide) rfl (a_cons (e_name (pv 0)) (a_cons (e_callB x_len o_len rfl Z.z_len (by kernel_rfl) (a_cons (e_name (pv 2)) a_nil)) a_nil)))) (a_cons (e_name (pv 11)) (a_cons (e_name (pv 13)) a_nil))))) (g_put T.u1 (e_ix T.u1 (e_name (pv 1)) e_str) (e_name (pv 12)))) (ss_cons (s_asg (e_name (pv 9)) (g_put T.u1 (e_ix T.u1 (e_name (pv 1)) e_str) (e_name (pv 12)))) (ss_one (s_asg (e_name (pv 12)) (g_put T.u1 (e_ix T.u1 (e_name (pv 1)) e_str) (e_name (pv 3))))))))))))))))))))
theorem ok__law_world (Z : Txt K mg base f fd) : GnOk P w K mg base 4 (f 16) (fd 16) ["_law_feed_here", "_law_words_here", "_law_many"] (spM ⟨K, mg⟩ m__law_world) := fn_ok Z.d__law_world.F sc__law_world rfl rfl fun cdv A outer s H E T =>
  (ss_cons (s_set (k := 3) (ps_set (i := 3) sc__law_world.nd rfl (Or.inl rfl)) (e_disp (d_cons e_dictT (d_cons e_dictT (d_cons e_dictK (d_cons (e_lstR a_nil) d_nil)))))) (ss_cons (s_for T.own rfl (r_rng1 rfl Z.z_range (a_cons (e_name (pv 2)) a_nil)) (g_name (pg_name (i := 4) sc__law_world.nd rfl (Or.inl rfl))) (ss_one (s_expr (c_call Z.d__law_step (ok__law_step Z) T (by decide) rfl (a_cons (e_name (pv 0)) (a_cons (e_name (pv 3)) (a_cons (e_name (pv 1)) a_nil))))))) (ss_one (s_ret (e_name (pv 3))))))
theorem ok__law_ledger (Z : Txt K mg base f fd) : GnOk P w K mg base 1 (f 17) (fd 17) ["_law_world_here", "_law_names"] (spM ⟨K, mg⟩ m__law_ledger) := fn_ok Z.d__law_ledger.F sc__law_ledger rfl rfl fun cdv A outer s H E T =>
  (ss_one (s_ret (e_callTy x_tuple o_tuple rfl Z.z_tuple (by kernel_rfl) (a_cons (e_lc (own := [("_law_name", 2)]) rfl sc__law_ledger.nd (i_seq (e_callB (x_sorted rfl T.u64) o_sorted rfl Z.z_sorted (by kernel_rfl) (a_cons (e_ix T.u1 (e_name (pv 0)) e_str) a_nil))) (blkOk_by (by kernel_rfl)) (fun s H C cl fp => ⟨(gx_name (pg_name (i := 2) sc__law_ledger.nd rfl (Or.inl rfl))), (ts_one (t_cmp (x_in T.blk.u64) (by with_unfolding_all rfl) o_in (e_name (pv 2)) (e_name (pv 1)))), (e_ix T.blk.u1 (e_ix T.blk.u1 (e_name (pv 0)) e_str) (e_name (pv 2)))⟩)) a_nil))))
theorem gw__law_refused__law_names_right (Z : Txt K mg base f fd) (cdv : Value) (A : Around) (outer : List PySem.Env) (s : Shared) (H : Hp) (E : XK) (cdg : Value) (q : Str) : GivesW (cxOf (L2.CX P w) P w K mg base ["_law_world_here", "_law_ledger_here", "_law_name", "_law_other", "_law_sorts", "_law_found", "_law_due", "_law_has"] "_law_names_right" (defScope s__law_names_right) (f 19) cdv A outer s H E) ["_law_ask", "_law_found", "e", "_law_sorts"] "_law_refused" (defScope s__law_refused) (f 18) cdg (defBody s__law_refused) "_law_ask" q (TTm ⟨K, mg⟩ t__law_refused) :=
  gives_toldR rfl sc__law_refused.nd rfl rfl rfl rfl (fun s0 H0 => ⟨rfl, by decide, .inl Z.N_MarginError.g⟩) (tabC ⟨_, Z.E_NoPaper.gC, exm_of' Z.N_MarginError.ci Z.N_MarginError.ty Z.N_MarginError.sb Z.p_NoPaper_MarginError⟩ (tabC ⟨_, Z.E_NoJoin.gC, exm_of' Z.N_MarginError.ci Z.N_MarginError.ty Z.N_MarginError.sb Z.p_NoJoin_MarginError⟩ (tab1 ⟨_, Z.E_NoName.gC, exm_of' Z.N_MarginError.ci Z.N_MarginError.ty Z.N_MarginError.sb Z.p_NoName_MarginError⟩))) (fun s0 H0 a oe cls d pn hz hf hR => (xs_cons (x_set (k := 3) (by decide) (fun he => ps_set (i := 3) sc__law_refused.nd rfl (Or.inl rfl) he) (x_lstR (xa_cons (x_isi (c := .ref _) (cv := .ref _) relV_ref (tabC ⟨_, Z.E_NoPaper.gC, Z.E_NoPaper.xc, kit_of Z.N_NoName.ci Z.N_NoName.ty Z.p_NoPaper_NoPaper Z.p_NoPaper_NoName⟩ (tabC ⟨_, Z.E_NoJoin.gC, Z.E_NoJoin.xc, kit_of Z.N_NoName.ci Z.N_NoName.ty Z.p_NoJoin_NoJoin Z.p_NoJoin_NoName⟩ (tab1 ⟨_, Z.E_NoName.gC, Z.E_NoName.xc, kit_of Z.N_NoName.ci Z.N_NoName.ty Z.p_NoName_NoName Z.p_NoName_NoName⟩))) hz hf (pv 2) (pe_glob rfl Z.N_NoName.g rfl) rfl Z.z_isinstance) (xa_cons (x_isi (c := .ref _) (cv := .ref _) relV_ref (tabC ⟨_, Z.E_NoPaper.gC, Z.E_NoPaper.xc, kit_of Z.N_NoJoin.ci Z.N_NoJoin.ty Z.p_NoPaper_NoPaper Z.p_NoPaper_NoJoin⟩ (tabC ⟨_, Z.E_NoJoin.gC, Z.E_NoJoin.xc, kit_of Z.N_NoJoin.ci Z.N_NoJoin.ty Z.p_NoJoin_NoJoin Z.p_NoJoin_NoJoin⟩ (tab1 ⟨_, Z.E_NoName.gC, Z.E_NoName.xc, kit_of Z.N_NoJoin.ci Z.N_NoJoin.ty Z.p_NoName_NoName Z.p_NoName_NoJoin⟩))) hz hf (pv 2) (pe_glob rfl Z.N_NoJoin.g rfl) rfl Z.z_isinstance) (xa_cons (x_isi (c := .ref _) (cv := .ref _) relV_ref (tabC ⟨_, Z.E_NoPaper.gC, Z.E_NoPaper.xc, kit_of Z.N_NoPaper.ci Z.N_NoPaper.ty Z.p_NoPaper_NoPaper Z.p_NoPaper_NoPaper⟩ (tabC ⟨_, Z.E_NoJoin.gC, Z.E_NoJoin.xc, kit_of Z.N_NoPaper.ci Z.N_NoPaper.ty Z.p_NoJoin_NoJoin Z.p_NoJoin_NoPaper⟩ (tab1 ⟨_, Z.E_NoName.gC, Z.E_NoName.xc, kit_of Z.N_NoPaper.ci Z.N_NoPaper.ty Z.p_NoName_NoName Z.p_NoName_NoPaper⟩))) hz hf (pv 2) (pe_glob rfl Z.N_NoPaper.g rfl) rfl Z.z_isinstance) (xa_cons (x_isi (c := .ty "ValueError") (cv := .type "ValueError") relV_ty (tabC ⟨_, Z.E_NoPaper.gC, Z.E_NoPaper.xc, kit_ve Z.p_NoPaper_ValueError⟩ (tabC ⟨_, Z.E_NoJoin.gC, Z.E_NoJoin.xc, kit_ve Z.p_NoJoin_ValueError⟩ (tab1 ⟨_, Z.E_NoName.gC, Z.E_NoName.xc, kit_ve Z.p_NoName_ValueError⟩))) hz hf (pv 2) (pe_bltn rfl Z.z_ValueError (v := .ty "ValueError") (by kernel_rfl) rfl) rfl Z.z_isinstance) xa_nil)))))) (xs_cons (x_expr (x_meth PySem.F.plainAttrs_list PySem.F.slot_list_append PySem.F.type_list_append mt_append ty_l o_append (x_lift (e_name (pv 3))) (xa_cons (x_isiT (cs := [f 29, f 30, f 28, f 33, f 31, f 32]) (tabC ⟨_, Z.E_NoPaper.gC, Z.E_NoPaper.xc, (kany_f (kit_of Z.N_NoBase.ci Z.N_NoBase.ty Z.p_NoPaper_NoPaper Z.p_NoPaper_NoBase) (kany_f (kit_of Z.N_NoBranch.ci Z.N_NoBranch.ty Z.p_NoPaper_NoPaper Z.p_NoPaper_NoBranch) (kany_f (kit_of Z.N_NoChange.ci Z.N_NoChange.ty Z.p_NoPaper_NoPaper Z.p_NoPaper_NoChange) (kany_f (kit_of Z.N_NoRow.ci Z.N_NoRow.ty Z.p_NoPaper_NoPaper Z.p_NoPaper_NoRow) (kany_f (kit_of Z.N_NoStrike.ci Z.N_NoStrike.ty Z.p_NoPaper_NoPaper Z.p_NoPaper_NoStrike) (kany_f (kit_of Z.N_NoText.ci Z.N_NoText.ty Z.p_NoPaper_NoPaper Z.p_NoPaper_NoText) kany_nil))))))⟩ (tabC ⟨_, Z.E_NoJoin.gC, Z.E_NoJoin.xc, (kany_f (kit_of Z.N_NoBase.ci Z.N_NoBase.ty Z.p_NoJoin_NoJoin Z.p_NoJoin_NoBase) (kany_f (kit_of Z.N_NoBranch.ci Z.N_NoBranch.ty Z.p_NoJoin_NoJoin Z.p_NoJoin_NoBranch) (kany_f (kit_of Z.N_NoChange.ci Z.N_NoChange.ty Z.p_NoJoin_NoJoin Z.p_NoJoin_NoChange) (kany_f (kit_of Z.N_NoRow.ci Z.N_NoRow.ty Z.p_NoJoin_NoJoin Z.p_NoJoin_NoRow) (kany_f (kit_of Z.N_NoStrike.ci Z.N_NoStrike.ty Z.p_NoJoin_NoJoin Z.p_NoJoin_NoStrike) (kany_f (kit_of Z.N_NoText.ci Z.N_NoText.ty Z.p_NoJoin_NoJoin Z.p_NoJoin_NoText) kany_nil))))))⟩ (tab1 ⟨_, Z.E_NoName.gC, Z.E_NoName.xc, (kany_f (kit_of Z.N_NoBase.ci Z.N_NoBase.ty Z.p_NoName_NoName Z.p_NoName_NoBase) (kany_f (kit_of Z.N_NoBranch.ci Z.N_NoBranch.ty Z.p_NoName_NoName Z.p_NoName_NoBranch) (kany_f (kit_of Z.N_NoChange.ci Z.N_NoChange.ty Z.p_NoName_NoName Z.p_NoName_NoChange) (kany_f (kit_of Z.N_NoRow.ci Z.N_NoRow.ty Z.p_NoName_NoName Z.p_NoName_NoRow) (kany_f (kit_of Z.N_NoStrike.ci Z.N_NoStrike.ty Z.p_NoName_NoName Z.p_NoName_NoStrike) (kany_f (kit_of Z.N_NoText.ci Z.N_NoText.ty Z.p_NoName_NoName Z.p_NoName_NoText) kany_nil))))))⟩))) (Nat.le_of_ble_eq_true rfl) hz hf (pv 2) (cl_cons (pe_glob rfl Z.N_NoBase.g rfl) (cl_cons (pe_glob rfl Z.N_NoBranch.g rfl) (cl_cons (pe_glob rfl Z.N_NoChange.g rfl) (cl_cons (pe_glob rfl Z.N_NoRow.g rfl) (cl_cons (pe_glob rfl Z.N_NoStrike.g rfl) (cl_cons (pe_glob rfl Z.N_NoText.g rfl) cl_nil)))))) rfl Z.z_isinstance) xa_nil))) (xs_one (x_if' (xt_lift (t_tru (e_ix (by have h9 := hu_of (k := 1) hR; exact h9) (e_name (pv 3)) e_int))) (xs_one (x_set (k := 1) (by decide) (fun he => ps_set (i := 1) sc__law_refused.nd rfl (Or.inl rfl) he) (x_tup (xa_cons (x_lift (e_name (pv 3))) (xa_cons (x_field Z.E_NoName.xf Z.E_NoName.gC (Z.E_NoName.no "name" (by simp)) hz hf (pv 2)) xa_nil))))) (xs_one (x_if' (xt_lift (t_tru (e_ix (by have h9 := hu_of (k := 1) hR; exact h9) (e_name (pv 3)) e_int))) (xs_one (x_set (k := 1) (by decide) (fun he => ps_set (i := 1) sc__law_refused.nd rfl (Or.inl rfl) he) (x_tup (xa_cons (x_lift (e_name (pv 3))) (xa_cons (x_field Z.E_NoJoin.xf Z.E_NoJoin.gC (Z.E_NoJoin.no "name" (by simp)) hz hf (pv 2)) (xa_cons (x_field Z.E_NoJoin.xf Z.E_NoJoin.gC (Z.E_NoJoin.no "word" (by simp)) hz hf (pv 2)) xa_nil)))))) (xs_one (x_if' (xt_lift (t_tru (e_ix (by have h9 := hu_of (k := 1) hR; exact h9) (e_name (pv 3)) e_int))) (xs_one (x_set (k := 1) (by decide) (fun he => ps_set (i := 1) sc__law_refused.nd rfl (Or.inl rfl) he) (x_tup (xa_cons (x_lift (e_name (pv 3))) (xa_cons (x_field Z.E_NoPaper.xf Z.E_NoPaper.gC (Z.E_NoPaper.no "word" (by simp)) hz hf (pv 2)) (xa_cons (x_field Z.E_NoPaper.xf Z.E_NoPaper.gC (Z.E_NoPaper.no "at" (by simp)) hz hf (pv 2)) xa_nil)))))) xs_nil)))))))))
theorem gw__law_refused__law_joins_right (Z : Txt K mg base f fd) (cdv : Value) (A : Around) (outer : List PySem.Env) (s : Shared) (H : Hp) (E : XK) (cdg : Value) (q : Str) : GivesW (cxOf (L2.CX P w) P w K mg base ["_law_words_here", "_law_b", "_law_c", "_law_d", "_law_sorts", "_law_first", "_law_second", "_law_third", "_law_fourth", "_law_cases", "_law_both", "_law_mine", "_law_theirs", "_law_due", "_law_told", "_law_one", "_law_other"] "_law_joins_right" (defScope s__law_joins_right) (f 21) cdv A outer s H E) ["_law_ask", "_law_found", "e", "_law_sorts"] "_law_refused" (defScope s__law_refused) (f 18) cdg (defBody s__law_refused) "_law_ask" q (TTm ⟨K, mg⟩ t__law_refused) :=
  gives_toldR rfl sc__law_refused.nd rfl rfl rfl rfl (fun s0 H0 => ⟨rfl, by decide, .inl Z.N_MarginError.g⟩) (tabC ⟨_, Z.E_NoPaper.gC, exm_of' Z.N_MarginError.ci Z.N_MarginError.ty Z.N_MarginError.sb Z.p_NoPaper_MarginError⟩ (tabC ⟨_, Z.E_NoJoin.gC, exm_of' Z.N_MarginError.ci Z.N_MarginError.ty Z.N_MarginError.sb Z.p_NoJoin_MarginError⟩ (tab1 ⟨_, Z.E_NoName.gC, exm_of' Z.N_MarginError.ci Z.N_MarginError.ty Z.N_MarginError.sb Z.p_NoName_MarginError⟩))) (fun s0 H0 a oe cls d pn hz hf hR => (xs_cons (x_set (k := 3) (by decide) (fun he => ps_set (i := 3) sc__law_refused.nd rfl (Or.inl rfl) he) (x_lstR (xa_cons (x_isi (c := .ref _) (cv := .ref _) relV_ref (tabC ⟨_, Z.E_NoPaper.gC, Z.E_NoPaper.xc, kit_of Z.N_NoName.ci Z.N_NoName.ty Z.p_NoPaper_NoPaper Z.p_NoPaper_NoName⟩ (tabC ⟨_, Z.E_NoJoin.gC, Z.E_NoJoin.xc, kit_of Z.N_NoName.ci Z.N_NoName.ty Z.p_NoJoin_NoJoin Z.p_NoJoin_NoName⟩ (tab1 ⟨_, Z.E_NoName.gC, Z.E_NoName.xc, kit_of Z.N_NoName.ci Z.N_NoName.ty Z.p_NoName_NoName Z.p_NoName_NoName⟩))) hz hf (pv 2) (pe_glob rfl Z.N_NoName.g rfl) rfl Z.z_isinstance) (xa_cons (x_isi (c := .ref _) (cv := .ref _) relV_ref (tabC ⟨_, Z.E_NoPaper.gC, Z.E_NoPaper.xc, kit_of Z.N_NoJoin.ci Z.N_NoJoin.ty Z.p_NoPaper_NoPaper Z.p_NoPaper_NoJoin⟩ (tabC ⟨_, Z.E_NoJoin.gC, Z.E_NoJoin.xc, kit_of Z.N_NoJoin.ci Z.N_NoJoin.ty Z.p_NoJoin_NoJoin Z.p_NoJoin_NoJoin⟩ (tab1 ⟨_, Z.E_NoName.gC, Z.E_NoName.xc, kit_of Z.N_NoJoin.ci Z.N_NoJoin.ty Z.p_NoName_NoName Z.p_NoName_NoJoin⟩))) hz hf (pv 2) (pe_glob rfl Z.N_NoJoin.g rfl) rfl Z.z_isinstance) (xa_cons (x_isi (c := .ref _) (cv := .ref _) relV_ref (tabC ⟨_, Z.E_NoPaper.gC, Z.E_NoPaper.xc, kit_of Z.N_NoPaper.ci Z.N_NoPaper.ty Z.p_NoPaper_NoPaper Z.p_NoPaper_NoPaper⟩ (tabC ⟨_, Z.E_NoJoin.gC, Z.E_NoJoin.xc, kit_of Z.N_NoPaper.ci Z.N_NoPaper.ty Z.p_NoJoin_NoJoin Z.p_NoJoin_NoPaper⟩ (tab1 ⟨_, Z.E_NoName.gC, Z.E_NoName.xc, kit_of Z.N_NoPaper.ci Z.N_NoPaper.ty Z.p_NoName_NoName Z.p_NoName_NoPaper⟩))) hz hf (pv 2) (pe_glob rfl Z.N_NoPaper.g rfl) rfl Z.z_isinstance) (xa_cons (x_isi (c := .ty "ValueError") (cv := .type "ValueError") relV_ty (tabC ⟨_, Z.E_NoPaper.gC, Z.E_NoPaper.xc, kit_ve Z.p_NoPaper_ValueError⟩ (tabC ⟨_, Z.E_NoJoin.gC, Z.E_NoJoin.xc, kit_ve Z.p_NoJoin_ValueError⟩ (tab1 ⟨_, Z.E_NoName.gC, Z.E_NoName.xc, kit_ve Z.p_NoName_ValueError⟩))) hz hf (pv 2) (pe_bltn rfl Z.z_ValueError (v := .ty "ValueError") (by kernel_rfl) rfl) rfl Z.z_isinstance) xa_nil)))))) (xs_cons (x_expr (x_meth PySem.F.plainAttrs_list PySem.F.slot_list_append PySem.F.type_list_append mt_append ty_l o_append (x_lift (e_name (pv 3))) (xa_cons (x_isiT (cs := [f 29, f 30, f 28, f 33, f 31, f 32]) (tabC ⟨_, Z.E_NoPaper.gC, Z.E_NoPaper.xc, (kany_f (kit_of Z.N_NoBase.ci Z.N_NoBase.ty Z.p_NoPaper_NoPaper Z.p_NoPaper_NoBase) (kany_f (kit_of Z.N_NoBranch.ci Z.N_NoBranch.ty Z.p_NoPaper_NoPaper Z.p_NoPaper_NoBranch) (kany_f (kit_of Z.N_NoChange.ci Z.N_NoChange.ty Z.p_NoPaper_NoPaper Z.p_NoPaper_NoChange) (kany_f (kit_of Z.N_NoRow.ci Z.N_NoRow.ty Z.p_NoPaper_NoPaper Z.p_NoPaper_NoRow) (kany_f (kit_of Z.N_NoStrike.ci Z.N_NoStrike.ty Z.p_NoPaper_NoPaper Z.p_NoPaper_NoStrike) (kany_f (kit_of Z.N_NoText.ci Z.N_NoText.ty Z.p_NoPaper_NoPaper Z.p_NoPaper_NoText) kany_nil))))))⟩ (tabC ⟨_, Z.E_NoJoin.gC, Z.E_NoJoin.xc, (kany_f (kit_of Z.N_NoBase.ci Z.N_NoBase.ty Z.p_NoJoin_NoJoin Z.p_NoJoin_NoBase) (kany_f (kit_of Z.N_NoBranch.ci Z.N_NoBranch.ty Z.p_NoJoin_NoJoin Z.p_NoJoin_NoBranch) (kany_f (kit_of Z.N_NoChange.ci Z.N_NoChange.ty Z.p_NoJoin_NoJoin Z.p_NoJoin_NoChange) (kany_f (kit_of Z.N_NoRow.ci Z.N_NoRow.ty Z.p_NoJoin_NoJoin Z.p_NoJoin_NoRow) (kany_f (kit_of Z.N_NoStrike.ci Z.N_NoStrike.ty Z.p_NoJoin_NoJoin Z.p_NoJoin_NoStrike) (kany_f (kit_of Z.N_NoText.ci Z.N_NoText.ty Z.p_NoJoin_NoJoin Z.p_NoJoin_NoText) kany_nil))))))⟩ (tab1 ⟨_, Z.E_NoName.gC, Z.E_NoName.xc, (kany_f (kit_of Z.N_NoBase.ci Z.N_NoBase.ty Z.p_NoName_NoName Z.p_NoName_NoBase) (kany_f (kit_of Z.N_NoBranch.ci Z.N_NoBranch.ty Z.p_NoName_NoName Z.p_NoName_NoBranch) (kany_f (kit_of Z.N_NoChange.ci Z.N_NoChange.ty Z.p_NoName_NoName Z.p_NoName_NoChange) (kany_f (kit_of Z.N_NoRow.ci Z.N_NoRow.ty Z.p_NoName_NoName Z.p_NoName_NoRow) (kany_f (kit_of Z.N_NoStrike.ci Z.N_NoStrike.ty Z.p_NoName_NoName Z.p_NoName_NoStrike) (kany_f (kit_of Z.N_NoText.ci Z.N_NoText.ty Z.p_NoName_NoName Z.p_NoName_NoText) kany_nil))))))⟩))) (Nat.le_of_ble_eq_true rfl) hz hf (pv 2) (cl_cons (pe_glob rfl Z.N_NoBase.g rfl) (cl_cons (pe_glob rfl Z.N_NoBranch.g rfl) (cl_cons (pe_glob rfl Z.N_NoChange.g rfl) (cl_cons (pe_glob rfl Z.N_NoRow.g rfl) (cl_cons (pe_glob rfl Z.N_NoStrike.g rfl) (cl_cons (pe_glob rfl Z.N_NoText.g rfl) cl_nil)))))) rfl Z.z_isinstance) xa_nil))) (xs_one (x_if' (xt_lift (t_tru (e_ix (by have h9 := hu_of (k := 1) hR; exact h9) (e_name (pv 3)) e_int))) (xs_one (x_set (k := 1) (by decide) (fun he => ps_set (i := 1) sc__law_refused.nd rfl (Or.inl rfl) he) (x_tup (xa_cons (x_lift (e_name (pv 3))) (xa_cons (x_field Z.E_NoName.xf Z.E_NoName.gC (Z.E_NoName.no "name" (by simp)) hz hf (pv 2)) xa_nil))))) (xs_one (x_if' (xt_lift (t_tru (e_ix (by have h9 := hu_of (k := 1) hR; exact h9) (e_name (pv 3)) e_int))) (xs_one (x_set (k := 1) (by decide) (fun he => ps_set (i := 1) sc__law_refused.nd rfl (Or.inl rfl) he) (x_tup (xa_cons (x_lift (e_name (pv 3))) (xa_cons (x_field Z.E_NoJoin.xf Z.E_NoJoin.gC (Z.E_NoJoin.no "name" (by simp)) hz hf (pv 2)) (xa_cons (x_field Z.E_NoJoin.xf Z.E_NoJoin.gC (Z.E_NoJoin.no "word" (by simp)) hz hf (pv 2)) xa_nil)))))) (xs_one (x_if' (xt_lift (t_tru (e_ix (by have h9 := hu_of (k := 1) hR; exact h9) (e_name (pv 3)) e_int))) (xs_one (x_set (k := 1) (by decide) (fun he => ps_set (i := 1) sc__law_refused.nd rfl (Or.inl rfl) he) (x_tup (xa_cons (x_lift (e_name (pv 3))) (xa_cons (x_field Z.E_NoPaper.xf Z.E_NoPaper.gC (Z.E_NoPaper.no "word" (by simp)) hz hf (pv 2)) (xa_cons (x_field Z.E_NoPaper.xf Z.E_NoPaper.gC (Z.E_NoPaper.no "at" (by simp)) hz hf (pv 2)) xa_nil)))))) xs_nil)))))))))
theorem gw__law_refused__law_papers_right (Z : Txt K mg base f fd) (cdv : Value) (A : Around) (outer : List PySem.Env) (s : Shared) (H : Hp) (E : XK) (cdg : Value) (q : Str) : GivesW (cxOf (L2.CX P w) P w K mg base ["_law_feed_here", "_law_words_here", "_law_b", "_law_c", "_law_d", "_law_sorts", "_law_cases", "_law_thing", "_law_due", "_law_word", "_law_ledger_here", "_law_one", "_law_other", "_law_paper"] "_law_papers_right" (defScope s__law_papers_right) (f 22) cdv A outer s H E) ["_law_ask", "_law_found", "e", "_law_sorts"] "_law_refused" (defScope s__law_refused) (f 18) cdg (defBody s__law_refused) "_law_ask" q (TTm ⟨K, mg⟩ t__law_refused) :=
  gives_toldR rfl sc__law_refused.nd rfl rfl rfl rfl (fun s0 H0 => ⟨rfl, by decide, .inl Z.N_MarginError.g⟩) (tabC ⟨_, Z.E_NoPaper.gC, exm_of' Z.N_MarginError.ci Z.N_MarginError.ty Z.N_MarginError.sb Z.p_NoPaper_MarginError⟩ (tabC ⟨_, Z.E_NoJoin.gC, exm_of' Z.N_MarginError.ci Z.N_MarginError.ty Z.N_MarginError.sb Z.p_NoJoin_MarginError⟩ (tab1 ⟨_, Z.E_NoName.gC, exm_of' Z.N_MarginError.ci Z.N_MarginError.ty Z.N_MarginError.sb Z.p_NoName_MarginError⟩))) (fun s0 H0 a oe cls d pn hz hf hR => (xs_cons (x_set (k := 3) (by decide) (fun he => ps_set (i := 3) sc__law_refused.nd rfl (Or.inl rfl) he) (x_lstR (xa_cons (x_isi (c := .ref _) (cv := .ref _) relV_ref (tabC ⟨_, Z.E_NoPaper.gC, Z.E_NoPaper.xc, kit_of Z.N_NoName.ci Z.N_NoName.ty Z.p_NoPaper_NoPaper Z.p_NoPaper_NoName⟩ (tabC ⟨_, Z.E_NoJoin.gC, Z.E_NoJoin.xc, kit_of Z.N_NoName.ci Z.N_NoName.ty Z.p_NoJoin_NoJoin Z.p_NoJoin_NoName⟩ (tab1 ⟨_, Z.E_NoName.gC, Z.E_NoName.xc, kit_of Z.N_NoName.ci Z.N_NoName.ty Z.p_NoName_NoName Z.p_NoName_NoName⟩))) hz hf (pv 2) (pe_glob rfl Z.N_NoName.g rfl) rfl Z.z_isinstance) (xa_cons (x_isi (c := .ref _) (cv := .ref _) relV_ref (tabC ⟨_, Z.E_NoPaper.gC, Z.E_NoPaper.xc, kit_of Z.N_NoJoin.ci Z.N_NoJoin.ty Z.p_NoPaper_NoPaper Z.p_NoPaper_NoJoin⟩ (tabC ⟨_, Z.E_NoJoin.gC, Z.E_NoJoin.xc, kit_of Z.N_NoJoin.ci Z.N_NoJoin.ty Z.p_NoJoin_NoJoin Z.p_NoJoin_NoJoin⟩ (tab1 ⟨_, Z.E_NoName.gC, Z.E_NoName.xc, kit_of Z.N_NoJoin.ci Z.N_NoJoin.ty Z.p_NoName_NoName Z.p_NoName_NoJoin⟩))) hz hf (pv 2) (pe_glob rfl Z.N_NoJoin.g rfl) rfl Z.z_isinstance) (xa_cons (x_isi (c := .ref _) (cv := .ref _) relV_ref (tabC ⟨_, Z.E_NoPaper.gC, Z.E_NoPaper.xc, kit_of Z.N_NoPaper.ci Z.N_NoPaper.ty Z.p_NoPaper_NoPaper Z.p_NoPaper_NoPaper⟩ (tabC ⟨_, Z.E_NoJoin.gC, Z.E_NoJoin.xc, kit_of Z.N_NoPaper.ci Z.N_NoPaper.ty Z.p_NoJoin_NoJoin Z.p_NoJoin_NoPaper⟩ (tab1 ⟨_, Z.E_NoName.gC, Z.E_NoName.xc, kit_of Z.N_NoPaper.ci Z.N_NoPaper.ty Z.p_NoName_NoName Z.p_NoName_NoPaper⟩))) hz hf (pv 2) (pe_glob rfl Z.N_NoPaper.g rfl) rfl Z.z_isinstance) (xa_cons (x_isi (c := .ty "ValueError") (cv := .type "ValueError") relV_ty (tabC ⟨_, Z.E_NoPaper.gC, Z.E_NoPaper.xc, kit_ve Z.p_NoPaper_ValueError⟩ (tabC ⟨_, Z.E_NoJoin.gC, Z.E_NoJoin.xc, kit_ve Z.p_NoJoin_ValueError⟩ (tab1 ⟨_, Z.E_NoName.gC, Z.E_NoName.xc, kit_ve Z.p_NoName_ValueError⟩))) hz hf (pv 2) (pe_bltn rfl Z.z_ValueError (v := .ty "ValueError") (by kernel_rfl) rfl) rfl Z.z_isinstance) xa_nil)))))) (xs_cons (x_expr (x_meth PySem.F.plainAttrs_list PySem.F.slot_list_append PySem.F.type_list_append mt_append ty_l o_append (x_lift (e_name (pv 3))) (xa_cons (x_isiT (cs := [f 29, f 30, f 28, f 33, f 31, f 32]) (tabC ⟨_, Z.E_NoPaper.gC, Z.E_NoPaper.xc, (kany_f (kit_of Z.N_NoBase.ci Z.N_NoBase.ty Z.p_NoPaper_NoPaper Z.p_NoPaper_NoBase) (kany_f (kit_of Z.N_NoBranch.ci Z.N_NoBranch.ty Z.p_NoPaper_NoPaper Z.p_NoPaper_NoBranch) (kany_f (kit_of Z.N_NoChange.ci Z.N_NoChange.ty Z.p_NoPaper_NoPaper Z.p_NoPaper_NoChange) (kany_f (kit_of Z.N_NoRow.ci Z.N_NoRow.ty Z.p_NoPaper_NoPaper Z.p_NoPaper_NoRow) (kany_f (kit_of Z.N_NoStrike.ci Z.N_NoStrike.ty Z.p_NoPaper_NoPaper Z.p_NoPaper_NoStrike) (kany_f (kit_of Z.N_NoText.ci Z.N_NoText.ty Z.p_NoPaper_NoPaper Z.p_NoPaper_NoText) kany_nil))))))⟩ (tabC ⟨_, Z.E_NoJoin.gC, Z.E_NoJoin.xc, (kany_f (kit_of Z.N_NoBase.ci Z.N_NoBase.ty Z.p_NoJoin_NoJoin Z.p_NoJoin_NoBase) (kany_f (kit_of Z.N_NoBranch.ci Z.N_NoBranch.ty Z.p_NoJoin_NoJoin Z.p_NoJoin_NoBranch) (kany_f (kit_of Z.N_NoChange.ci Z.N_NoChange.ty Z.p_NoJoin_NoJoin Z.p_NoJoin_NoChange) (kany_f (kit_of Z.N_NoRow.ci Z.N_NoRow.ty Z.p_NoJoin_NoJoin Z.p_NoJoin_NoRow) (kany_f (kit_of Z.N_NoStrike.ci Z.N_NoStrike.ty Z.p_NoJoin_NoJoin Z.p_NoJoin_NoStrike) (kany_f (kit_of Z.N_NoText.ci Z.N_NoText.ty Z.p_NoJoin_NoJoin Z.p_NoJoin_NoText) kany_nil))))))⟩ (tab1 ⟨_, Z.E_NoName.gC, Z.E_NoName.xc, (kany_f (kit_of Z.N_NoBase.ci Z.N_NoBase.ty Z.p_NoName_NoName Z.p_NoName_NoBase) (kany_f (kit_of Z.N_NoBranch.ci Z.N_NoBranch.ty Z.p_NoName_NoName Z.p_NoName_NoBranch) (kany_f (kit_of Z.N_NoChange.ci Z.N_NoChange.ty Z.p_NoName_NoName Z.p_NoName_NoChange) (kany_f (kit_of Z.N_NoRow.ci Z.N_NoRow.ty Z.p_NoName_NoName Z.p_NoName_NoRow) (kany_f (kit_of Z.N_NoStrike.ci Z.N_NoStrike.ty Z.p_NoName_NoName Z.p_NoName_NoStrike) (kany_f (kit_of Z.N_NoText.ci Z.N_NoText.ty Z.p_NoName_NoName Z.p_NoName_NoText) kany_nil))))))⟩))) (Nat.le_of_ble_eq_true rfl) hz hf (pv 2) (cl_cons (pe_glob rfl Z.N_NoBase.g rfl) (cl_cons (pe_glob rfl Z.N_NoBranch.g rfl) (cl_cons (pe_glob rfl Z.N_NoChange.g rfl) (cl_cons (pe_glob rfl Z.N_NoRow.g rfl) (cl_cons (pe_glob rfl Z.N_NoStrike.g rfl) (cl_cons (pe_glob rfl Z.N_NoText.g rfl) cl_nil)))))) rfl Z.z_isinstance) xa_nil))) (xs_one (x_if' (xt_lift (t_tru (e_ix (by have h9 := hu_of (k := 1) hR; exact h9) (e_name (pv 3)) e_int))) (xs_one (x_set (k := 1) (by decide) (fun he => ps_set (i := 1) sc__law_refused.nd rfl (Or.inl rfl) he) (x_tup (xa_cons (x_lift (e_name (pv 3))) (xa_cons (x_field Z.E_NoName.xf Z.E_NoName.gC (Z.E_NoName.no "name" (by simp)) hz hf (pv 2)) xa_nil))))) (xs_one (x_if' (xt_lift (t_tru (e_ix (by have h9 := hu_of (k := 1) hR; exact h9) (e_name (pv 3)) e_int))) (xs_one (x_set (k := 1) (by decide) (fun he => ps_set (i := 1) sc__law_refused.nd rfl (Or.inl rfl) he) (x_tup (xa_cons (x_lift (e_name (pv 3))) (xa_cons (x_field Z.E_NoJoin.xf Z.E_NoJoin.gC (Z.E_NoJoin.no "name" (by simp)) hz hf (pv 2)) (xa_cons (x_field Z.E_NoJoin.xf Z.E_NoJoin.gC (Z.E_NoJoin.no "word" (by simp)) hz hf (pv 2)) xa_nil)))))) (xs_one (x_if' (xt_lift (t_tru (e_ix (by have h9 := hu_of (k := 1) hR; exact h9) (e_name (pv 3)) e_int))) (xs_one (x_set (k := 1) (by decide) (fun he => ps_set (i := 1) sc__law_refused.nd rfl (Or.inl rfl) he) (x_tup (xa_cons (x_lift (e_name (pv 3))) (xa_cons (x_field Z.E_NoPaper.xf Z.E_NoPaper.gC (Z.E_NoPaper.no "word" (by simp)) hz hf (pv 2)) (xa_cons (x_field Z.E_NoPaper.xf Z.E_NoPaper.gC (Z.E_NoPaper.no "at" (by simp)) hz hf (pv 2)) xa_nil)))))) xs_nil)))))))))
theorem ok__law_names_right (Z : Txt K mg base f fd) : GnOk P w K mg base 7 (f 19) (fd 19) ["_law_world_here", "_law_ledger_here", "_law_name", "_law_other"] (spM ⟨K, mg⟩ m__law_names_right) := by
  obtain ⟨c0, tP0, hc0, tB0, tb0, tu0⟩ := Z.tb__law_names_right
  exact fn_okC Z.d__law_names_right.F sc__law_names_right rfl rfl fun cdv hcd A outer s H E T =>
  (ss_cons (s_set (k := 4) (ps_set (i := 4) sc__law_names_right.nd rfl (Or.inl rfl)) (e_lst (a_cons e_bl (a_cons e_bl (a_cons e_bl (a_cons e_bl (a_cons e_bl a_nil))))))) (ss_cons (s_set (k := 5) (ps_set (i := 5) sc__law_names_right.nd rfl (Or.inl rfl)) (e_lstR (a_cons (e_lamm (k := 3) Z.d__law_refused sc__law_refused rfl (Or.inl rfl) toldR_ne (fun cdg => gw__law_refused__law_names_right Z cdv A outer s H E cdg _) tb0 tu0 tB0 (hcd.symm.trans hc0) T (by decide) rfl (LamX.lamS_by (by kernel_rfl)) rfl (fun _ _ _ _ _ => rfl) (fun AL outerL sL HL EL fL cL TL => (c_call Z.d_change_of (ok_change_of Z) TL (by decide) rfl (a_cons (e_name (pv 1)) (a_cons (e_name (pv 2)) a_nil)))) rfl rfl rfl) a_nil))) (ss_cons (s_expr (e_meth PySem.F.plainAttrs_list PySem.F.slot_list_append PySem.F.type_list_append mt_append ty_l o_append (e_name (pv 5)) (a_cons (e_lamm (k := 4) Z.d__law_refused sc__law_refused rfl (Or.inl rfl) toldR_ne (fun cdg => gw__law_refused__law_names_right Z cdv A outer s H E cdg _) tb0 tu0 tB0 (hcd.symm.trans hc0) T (by decide) rfl (LamX.lamS_by (by kernel_rfl)) rfl (fun _ _ _ _ _ => rfl) (fun AL outerL sL HL EL fL cL TL => (c_call Z.d_known (ok_known Z) TL (by decide) rfl (a_cons (e_name (pv 1)) (a_cons (e_name (pv 2)) a_nil)))) rfl rfl rfl) a_nil))) (ss_cons (s_expr (e_meth PySem.F.plainAttrs_list PySem.F.slot_list_append PySem.F.type_list_append mt_append ty_l o_append (e_name (pv 5)) (a_cons (e_lamm (k := 4) Z.d__law_refused sc__law_refused rfl (Or.inl rfl) toldR_ne (fun cdg => gw__law_refused__law_names_right Z cdv A outer s H E cdg _) tb0 tu0 tB0 (hcd.symm.trans hc0) T (by decide) rfl (LamX.lamS_by (by kernel_rfl)) rfl (fun _ _ _ _ _ => rfl) (fun AL outerL sL HL EL fL cL TL => (c_call Z.d_knows (ok_knows Z) TL (by decide) rfl (a_cons (e_name (pv 1)) (a_cons (e_name (pv 2)) (a_cons (e_name (pv 3)) a_nil))))) rfl rfl rfl) a_nil))) (ss_cons (s_set (k := 6) (ps_set (i := 6) sc__law_names_right.nd rfl (Or.inl rfl)) (e_bin op_rep o_rep (e_lst (a_cons (e_tup (a_cons (e_name (pv 4)) (a_cons (e_name (pv 2)) a_nil))) a_nil)) e_int)) (ss_cons (s_if (t_cmp (op_neP T.u64) (by with_unfolding_all rfl) o_ne (e_name (pv 1)) (e_tup a_nil)) (ss_cons (s_set (k := 7) (ps_set (i := 7) sc__law_names_right.nd rfl (Or.inr rfl)) (e_ix T.u1 (e_ix T.u1 (e_name (pv 1)) (e_un un_neg o_neg e_int)) e_int)) (ss_cons (s_expr (e_meth PySem.F.plainAttrs_list PySem.F.slot_list_append PySem.F.type_list_append mt_append ty_l o_append (e_name (pv 5)) (a_cons (e_lamm (k := 4) Z.d__law_refused sc__law_refused rfl (Or.inl rfl) toldR_ne (fun cdg => gw__law_refused__law_names_right Z cdv A outer s H E cdg _) tb0 tu0 tB0 (hcd.symm.trans hc0) T (by decide) rfl (LamX.lamS_by (by kernel_rfl)) rfl (fun _ _ _ _ _ => rfl) (fun AL outerL sL HL EL fL cL TL => (c_call Z.d_knows (ok_knows Z) TL (by decide) rfl (a_cons (e_name (pv 1)) (a_cons (e_name (pv 7)) (a_cons (e_name (pv 2)) a_nil))))) rfl rfl rfl) a_nil))) (ss_cons (s_expr (e_meth PySem.F.plainAttrs_list PySem.F.slot_list_append PySem.F.type_list_append mt_append ty_l o_append (e_name (pv 5)) (a_cons (e_lamm (k := 4) Z.d__law_refused sc__law_refused rfl (Or.inl rfl) toldR_ne (fun cdg => gw__law_refused__law_names_right Z cdv A outer s H E cdg _) tb0 tu0 tB0 (hcd.symm.trans hc0) T (by decide) rfl (LamX.lamS_by (by kernel_rfl)) rfl (fun _ _ _ _ _ => rfl) (fun AL outerL sL HL EL fL cL TL => (c_call Z.d_knows (ok_knows Z) TL (by decide) rfl (a_cons (e_name (pv 1)) (a_cons (e_name (pv 2)) (a_cons (e_name (pv 7)) a_nil))))) rfl rfl rfl) a_nil))) (ss_one (s_set (k := 6) (ps_set (i := 6) sc__law_names_right.nd rfl (Or.inl rfl)) (e_bin x_add o_add (e_name (pv 6)) (e_bin op_rep o_rep (e_lst (a_cons (e_tup (a_cons (e_name (pv 4)) (a_cons (e_name (pv 2)) a_nil))) a_nil)) e_int))))))) ss_nil) (ss_one (s_ret (e_cmp (op_eqP T.u64) (by with_unfolding_all rfl) o_eq (e_callB (call_reprD T.u64 T.gd) o_repr rfl Z.z_repr (by kernel_rfl) (a_cons (e_name (pv 5)) a_nil)) (e_callB (call_reprD T.u64 T.gd) o_repr rfl Z.z_repr (by kernel_rfl) (a_cons (e_name (pv 6)) a_nil)))))))))))
theorem ok__law_put (Z : Txt K mg base f fd) : GnOk P w K mg base 1 (f 20) (fd 20) ["_law_name", "_law_hand", "_law_base"] (spM ⟨K, mg⟩ m__law_put) := fn_ok Z.d__law_put.F sc__law_put rfl rfl fun cdv A outer s H E T =>
  (ss_one (s_ret (e_tup (a_cons (e_name (pv 0)) (a_cons (e_name (pv 1)) (a_cons (e_name (pv 2)) (a_cons (e_tup (a_cons e_str (a_cons e_int (a_cons e_str a_nil)))) a_nil)))))))
theorem ok__law_joins_right (Z : Txt K mg base f fd) : GnOk P w K mg base 6 (f 21) (fd 21) ["_law_words_here"] (spM ⟨K, mg⟩ m__law_joins_right) := by
  obtain ⟨c0, tP0, hc0, tB0, tb0, tu0⟩ := Z.tb__law_joins_right
  exact fn_okC Z.d__law_joins_right.F sc__law_joins_right rfl rfl fun cdv hcd A outer s H E T =>
  (ss_cons (s_asg (e_sl (e_name (pv 0)) o_none (o_some e_int)) (g_lst rfl (gs_cons (g_name (pg_name (i := 1) sc__law_joins_right.nd rfl (Or.inl rfl))) (gs_cons (g_name (pg_name (i := 2) sc__law_joins_right.nd rfl (Or.inl rfl))) (gs_cons (g_name (pg_name (i := 3) sc__law_joins_right.nd rfl (Or.inl rfl))) gs_nil))))) (ss_cons (s_set (k := 4) (ps_set (i := 4) sc__law_joins_right.nd rfl (Or.inl rfl)) (e_lst (a_cons e_bl (a_cons e_bl (a_cons e_bl (a_cons e_bl (a_cons e_bl a_nil))))))) (ss_cons (s_set (k := 5) (ps_set (i := 5) sc__law_joins_right.nd rfl (Or.inl rfl)) (e_lst (a_cons (c_call Z.d__law_put (ok__law_put Z) T (by decide) rfl (a_cons (e_tup (a_cons e_int (a_cons (e_name (pv 1)) a_nil))) (a_cons (e_name (pv 1)) (a_cons (e_tup a_nil) a_nil)))) (a_cons (c_call Z.d__law_put (ok__law_put Z) T (by decide) rfl (a_cons (e_tup (a_cons e_int (a_cons (e_name (pv 1)) a_nil))) (a_cons (e_name (pv 1)) (a_cons (e_tup (a_cons (e_tup (a_cons e_int (a_cons (e_name (pv 1)) a_nil))) a_nil)) a_nil)))) (a_cons (c_call Z.d__law_put (ok__law_put Z) T (by decide) rfl (a_cons (e_tup (a_cons e_int (a_cons (e_name (pv 2)) a_nil))) (a_cons (e_name (pv 2)) (a_cons (e_tup a_nil) a_nil)))) a_nil))))) (ss_cons (s_set (k := 6) (ps_set (i := 6) sc__law_joins_right.nd rfl (Or.inl rfl)) (e_lst (a_cons (c_call Z.d__law_put (ok__law_put Z) T (by decide) rfl (a_cons (e_tup (a_cons e_int (a_cons (e_name (pv 3)) a_nil))) (a_cons (e_name (pv 3)) (a_cons (e_tup a_nil) a_nil)))) (a_cons (c_call Z.d__law_put (ok__law_put Z) T (by decide) rfl (a_cons (e_tup (a_cons e_int (a_cons (e_name (pv 1)) a_nil))) (a_cons (e_name (pv 1)) (a_cons (e_tup (a_cons (e_tup (a_cons e_int (a_cons (e_name (pv 3)) a_nil))) a_nil)) a_nil)))) a_nil)))) (ss_cons (s_set (k := 7) (ps_set (i := 7) sc__law_joins_right.nd rfl (Or.inl rfl)) (e_lst (a_cons (c_call Z.d__law_put (ok__law_put Z) T (by decide) rfl (a_cons (e_tup (a_cons e_int (a_cons (e_name (pv 2)) a_nil))) (a_cons (e_name (pv 2)) (a_cons (e_tup a_nil) a_nil)))) (a_cons (c_call Z.d__law_put (ok__law_put Z) T (by decide) rfl (a_cons (e_tup (a_cons e_int (a_cons (e_name (pv 2)) a_nil))) (a_cons (e_name (pv 2)) (a_cons (e_tup (a_cons (e_tup (a_cons e_int (a_cons (e_name (pv 2)) a_nil))) a_nil)) a_nil)))) a_nil)))) (ss_cons (s_set (k := 8) (ps_set (i := 8) sc__law_joins_right.nd rfl (Or.inl rfl)) (e_bin x_add o_add (e_name (pv 6)) (e_lst (a_cons (c_call Z.d__law_put (ok__law_put Z) T (by decide) rfl (a_cons (e_tup (a_cons e_int (a_cons (e_name (pv 2)) a_nil))) (a_cons (e_name (pv 2)) (a_cons (e_tup a_nil) a_nil)))) (a_cons (c_call Z.d__law_put (ok__law_put Z) T (by decide) rfl (a_cons (e_tup (a_cons e_int (a_cons (e_name (pv 2)) a_nil))) (a_cons (e_name (pv 3)) (a_cons (e_tup (a_cons (e_tup (a_cons e_int (a_cons (e_name (pv 2)) a_nil))) a_nil)) a_nil)))) a_nil))))) (ss_cons (s_set (k := 9) (ps_set (i := 9) sc__law_joins_right.nd rfl (Or.inl rfl)) (e_lstR (a_cons (e_tup (a_cons (e_name (pv 5)) (a_cons (e_name (pv 6)) (a_cons (e_tup (a_cons (e_tup (a_cons e_int (a_cons (e_name (pv 1)) a_nil))) (a_cons e_str a_nil))) a_nil)))) (a_cons (e_tup (a_cons (e_sl (e_name (pv 5)) o_none (o_some e_int)) (a_cons (e_name (pv 6)) (a_cons (e_tup (a_cons (e_tup (a_cons e_int (a_cons (e_name (pv 1)) a_nil))) (a_cons e_str a_nil))) a_nil)))) a_nil)))) (ss_cons (s_expr (e_meth PySem.F.plainAttrs_list PySem.F.slot_list_append PySem.F.type_list_append mt_append ty_l o_append (e_name (pv 9)) (a_cons (e_tup (a_cons (e_name (pv 7)) (a_cons (e_name (pv 8)) (a_cons (e_tup (a_cons (e_tup (a_cons e_int (a_cons (e_name (pv 2)) a_nil))) (a_cons e_str a_nil))) a_nil)))) a_nil))) (ss_cons (s_set (k := 10) (ps_set (i := 10) sc__law_joins_right.nd rfl (Or.inl rfl)) (e_callB (call_minD rfl T.u64) o_minD rfl Z.z_min (by kernel_rfl) (a_cons (e_tup (a_cons (e_tup (a_cons e_int (a_cons (e_name (pv 1)) a_nil))) (a_cons e_str a_nil))) (a_cons (e_tup (a_cons (e_tup (a_cons e_int (a_cons (e_name (pv 2)) a_nil))) (a_cons e_str a_nil))) a_nil)))) (ss_cons (s_expr (e_meth PySem.F.plainAttrs_list PySem.F.slot_list_append PySem.F.type_list_append mt_append ty_l o_append (e_name (pv 9)) (a_cons (e_tup (a_cons (e_bin x_add o_add (e_sl (e_name (pv 5)) o_none (o_some e_int)) (e_name (pv 7))) (a_cons (e_name (pv 8)) (a_cons (e_name (pv 10)) a_nil)))) a_nil))) (ss_cons (s_for T.own rfl (i_seq (e_name (pv 9))) (g_tup rfl (gs_cons (g_name (pg_name (i := 11) sc__law_joins_right.nd rfl (Or.inl rfl))) (gs_cons (g_name (pg_name (i := 12) sc__law_joins_right.nd rfl (Or.inl rfl))) (gs_cons (g_name (pg_name (i := 13) sc__law_joins_right.nd rfl (Or.inl rfl))) gs_nil)))) (ss_cons (s_asg (e_tup (a_cons (e_callTy x_tuple o_tuple rfl Z.z_tuple (by kernel_rfl) (a_cons (e_callB (x_sorted rfl T.u64) o_sorted rfl Z.z_sorted (by kernel_rfl) (a_cons (e_name (pv 11)) a_nil)) a_nil)) (a_cons (e_callTy x_tuple o_tuple rfl Z.z_tuple (by kernel_rfl) (a_cons (e_callB (x_sorted rfl T.u64) o_sorted rfl Z.z_sorted (by kernel_rfl) (a_cons (e_name (pv 12)) a_nil)) a_nil)) a_nil))) (g_tup rfl (gs_cons (g_name (pg_name (i := 15) sc__law_joins_right.nd rfl (Or.inr rfl))) (gs_cons (g_name (pg_name (i := 16) sc__law_joins_right.nd rfl (Or.inr rfl))) gs_nil)))) (ss_cons (s_set (k := 14) (ps_set (i := 14) sc__law_joins_right.nd rfl (Or.inl rfl)) (e_lstR (a_cons (e_lamm (k := 3) Z.d__law_refused sc__law_refused rfl (Or.inl rfl) toldR_ne (fun cdg => gw__law_refused__law_joins_right Z cdv A outer s H E cdg _) tb0 tu0 tB0 (hcd.symm.trans hc0) T (by decide) rfl (LamX.lamS_by (by kernel_rfl)) rfl (fun _ _ _ _ _ => rfl) (fun AL outerL sL HL EL fL cL TL => (c_call Z.d_joined (ok_joined Z) TL (by decide) rfl (a_cons (e_name (pv 15)) (a_cons (e_name (pv 16)) a_nil)))) rfl rfl rfl) a_nil))) (ss_cons (s_expr (e_meth PySem.F.plainAttrs_list PySem.F.slot_list_append PySem.F.type_list_append mt_append ty_l o_append (e_name (pv 14)) (a_cons (e_lamm (k := 3) Z.d__law_refused sc__law_refused rfl (Or.inl rfl) toldR_ne (fun cdg => gw__law_refused__law_joins_right Z cdv A outer s H E cdg _) tb0 tu0 tB0 (hcd.symm.trans hc0) T (by decide) rfl (LamX.lamS_by (by kernel_rfl)) rfl (fun _ _ _ _ _ => rfl) (fun AL outerL sL HL EL fL cL TL => (c_call Z.d_joined (ok_joined Z) TL (by decide) rfl (a_cons (e_name (pv 16)) (a_cons (e_name (pv 15)) a_nil)))) rfl rfl rfl) a_nil))) (ss_one (s_if (t_cmp (op_neP T.u64) (by with_unfolding_all rfl) o_ne (e_callB (call_reprD T.u64 T.gd) o_repr rfl Z.z_repr (by kernel_rfl) (a_cons (e_name (pv 14)) a_nil)) (e_callB (call_reprD T.u64 T.gd) o_repr rfl Z.z_repr (by kernel_rfl) (a_cons (e_bin op_rep o_rep (e_lst (a_cons (e_bin x_add o_add (e_tup (a_cons (e_name (pv 4)) a_nil)) (e_name (pv 13))) a_nil)) e_int) a_nil))) (ss_one (s_ret e_bl)) ss_nil)))))) (ss_one (s_ret e_bl)))))))))))))
theorem ok__law_papers_right (Z : Txt K mg base f fd) : GnOk P w K mg base 8 (f 22) (fd 22) ["_law_feed_here", "_law_words_here"] (spM ⟨K, mg⟩ m__law_papers_right) := by
  obtain ⟨c0, tP0, hc0, tB0, tb0, tu0⟩ := Z.tb__law_papers_right
  exact fn_okC Z.d__law_papers_right.F sc__law_papers_right rfl rfl fun cdv hcd A outer s H E T =>
  (ss_cons (s_asg (e_sl (e_name (pv 1)) o_none (o_some e_int)) (g_lst rfl (gs_cons (g_name (pg_name (i := 2) sc__law_papers_right.nd rfl (Or.inl rfl))) (gs_cons (g_name (pg_name (i := 3) sc__law_papers_right.nd rfl (Or.inl rfl))) (gs_cons (g_name (pg_name (i := 4) sc__law_papers_right.nd rfl (Or.inl rfl))) gs_nil))))) (ss_cons (s_set (k := 5) (ps_set (i := 5) sc__law_papers_right.nd rfl (Or.inl rfl)) (e_lst (a_cons e_bl (a_cons e_bl (a_cons e_bl (a_cons e_bl (a_cons e_bl a_nil))))))) (ss_cons (s_set (k := 10) (ps_set (i := 10) sc__law_papers_right.nd rfl (Or.inr rfl)) (e_callTy x_tuple o_tuple rfl Z.z_tuple (by kernel_rfl) (a_cons (e_callB (x_sorted rfl T.u64) o_sorted rfl Z.z_sorted (by kernel_rfl) (a_cons (e_lst (a_cons (c_call Z.d__law_put (ok__law_put Z) T (by decide) rfl (a_cons (e_tup (a_cons e_int (a_cons (e_name (pv 2)) a_nil))) (a_cons (e_name (pv 2)) (a_cons (e_tup a_nil) a_nil)))) (a_cons (c_call Z.d__law_put (ok__law_put Z) T (by decide) rfl (a_cons (e_tup (a_cons e_int (a_cons (e_name (pv 3)) a_nil))) (a_cons (e_name (pv 3)) (a_cons (e_tup a_nil) a_nil)))) (a_cons (c_call Z.d__law_put (ok__law_put Z) T (by decide) rfl (a_cons (e_tup (a_cons e_int (a_cons (e_name (pv 3)) a_nil))) (a_cons (e_name (pv 3)) (a_cons (e_tup (a_cons (e_tup (a_cons e_int (a_cons (e_name (pv 3)) a_nil))) a_nil)) a_nil)))) a_nil)))) a_nil)) a_nil))) (ss_cons (s_asg (e_tup (a_cons (e_tup (a_cons (e_tup (a_cons e_int (a_cons (e_name (pv 2)) a_nil))) (a_cons (e_tup (a_cons e_int (a_cons (e_name (pv 3)) a_nil))) (a_cons (e_tup (a_cons e_int (a_cons (e_name (pv 3)) a_nil))) a_nil)))) (a_cons (e_tup (a_cons (e_tup (a_cons e_int (a_cons (e_name (pv 3)) a_nil))) (a_cons (e_tup (a_cons e_int (a_cons (e_name (pv 3)) a_nil))) (a_cons (e_tup (a_cons e_int (a_cons (e_name (pv 2)) a_nil))) a_nil)))) a_nil))) (g_tup rfl (gs_cons (g_name (pg_name (i := 11) sc__law_papers_right.nd rfl (Or.inr rfl))) (gs_cons (g_name (pg_name (i := 12) sc__law_papers_right.nd rfl (Or.inr rfl))) gs_nil)))) (ss_cons (s_set (k := 6) (ps_set (i := 6) sc__law_papers_right.nd rfl (Or.inl rfl)) (e_lst (a_cons (e_tup (a_cons (e_lst (a_cons e_int (a_cons e_int a_nil))) (a_cons (e_tup (a_cons e_str (a_cons (e_un un_neg o_neg e_int) a_nil))) a_nil))) (a_cons (e_tup (a_cons (e_tup (a_cons e_int a_nil)) (a_cons (e_tup (a_cons e_str (a_cons e_int a_nil))) a_nil))) (a_cons (e_tup (a_cons (e_tup (a_cons e_int (a_cons e_bl a_nil))) (a_cons (e_tup (a_cons e_str (a_cons e_int a_nil))) a_nil))) (a_cons (e_tup (a_cons (e_tup (a_cons e_int a_nil)) (a_cons (e_tup (a_cons e_str (a_cons e_int a_nil))) a_nil))) a_nil)))))) (ss_cons (s_set (k := 6) (ps_set (i := 6) sc__law_papers_right.nd rfl (Or.inl rfl)) (e_bin x_add o_add (e_name (pv 6)) (e_lst (a_cons (e_tup (a_cons (e_tup (a_cons e_int (a_cons e_int a_nil))) (a_cons (e_tup (a_cons e_str (a_cons e_int a_nil))) a_nil))) (a_cons (e_tup (a_cons (e_tup (a_cons e_int a_nil)) (a_cons (e_tup (a_cons e_str (a_cons (e_un un_neg o_neg e_int) a_nil))) a_nil))) (a_cons (e_tup (a_cons (e_tup (a_cons e_int (a_cons e_int (a_cons e_int a_nil)))) (a_cons (e_tup (a_cons e_str (a_cons e_int a_nil))) a_nil))) (a_cons (e_tup (a_cons (e_tup (a_cons e_int (a_cons e_int (a_cons e_int a_nil)))) (a_cons (e_tup (a_cons e_str (a_cons e_int a_nil))) a_nil))) a_nil))))))) (ss_cons (s_set (k := 6) (ps_set (i := 6) sc__law_papers_right.nd rfl (Or.inl rfl)) (e_bin x_add o_add (e_name (pv 6)) (e_lst (a_cons (e_tup (a_cons (e_tup a_nil) (a_cons (e_tup (a_cons e_str (a_cons (e_un un_neg o_neg e_int) a_nil))) a_nil))) (a_cons (e_tup (a_cons (e_tup (a_cons e_int (a_cons (e_un un_neg o_neg e_int) a_nil))) (a_cons (e_tup (a_cons e_str (a_cons e_int a_nil))) a_nil))) (a_cons (e_tup (a_cons e_non (a_cons (e_tup (a_cons e_str (a_cons (e_un un_neg o_neg e_int) a_nil))) a_nil))) (a_cons (e_tup (a_cons (e_tup (a_cons e_int (a_cons e_int (a_cons e_int a_nil)))) (a_cons (e_tup (a_cons e_str (a_cons (e_un un_neg o_neg e_int) a_nil))) a_nil))) a_nil))))))) (ss_cons (s_asg (e_ix T.u1 (e_name (pv 6)) (c_call Z.d__law_draw (ok__law_draw Z) T (by decide) rfl (a_cons (e_name (pv 0)) (a_cons e_int a_nil)))) (g_tup rfl (gs_cons (g_name (pg_name (i := 7) sc__law_papers_right.nd rfl (Or.inl rfl))) (gs_cons (g_name (pg_name (i := 8) sc__law_papers_right.nd rfl (Or.inl rfl))) gs_nil)))) (ss_cons (s_for T.own rfl (i_seq (e_bin x_add o_add (e_name (pv 6)) (e_lst (a_cons (e_tup (a_cons (e_name (pv 7)) (a_cons (e_name (pv 8)) a_nil))) a_nil)))) (g_tup rfl (gs_cons (g_name (pg_name (i := 13) sc__law_papers_right.nd rfl (Or.inr rfl))) (gs_cons (g_name (pg_name (i := 9) sc__law_papers_right.nd rfl (Or.inl rfl))) gs_nil))) (ss_one (s_if (t_cmp (op_neP T.u64) (by with_unfolding_all rfl) o_ne (e_callB (call_reprD T.u64 T.gd) o_repr rfl Z.z_repr (by kernel_rfl) (a_cons (e_lamm (k := 5) Z.d__law_refused sc__law_refused rfl (Or.inl rfl) toldR_ne (fun cdg => gw__law_refused__law_papers_right Z cdv A outer s H E cdg _) tb0 tu0 tB0 (hcd.symm.trans hc0) T (by decide) rfl (LamX.lamS_by (by kernel_rfl)) rfl (fun _ _ _ _ _ => rfl) (fun AL outerL sL HL EL fL cL TL => (c_call Z.d_lets_exchanges (ok_lets_exchanges Z) TL (by decide) rfl (a_cons (e_name (pv 10)) (a_cons (e_name (pv 11)) (a_cons (e_name (pv 12)) (a_cons (e_name (pv 13)) a_nil)))))) rfl rfl rfl) a_nil)) (e_callB (call_reprD T.u64 T.gd) o_repr rfl Z.z_repr (by kernel_rfl) (a_cons (e_bin x_add o_add (e_tup (a_cons (e_name (pv 5)) a_nil)) (e_name (pv 9))) a_nil))) (ss_one (s_ret e_bl)) ss_nil))) (ss_one (s_ret (e_cmp (op_eqP T.u64) (by with_unfolding_all rfl) o_eq (e_callB (call_reprD T.u64 T.gd) o_repr rfl Z.z_repr (by kernel_rfl) (a_cons (c_call Z.d_lets_exchanges (ok_lets_exchanges Z) T (by decide) rfl (a_cons (e_name (pv 10)) (a_cons (e_name (pv 11)) (a_cons (e_name (pv 12)) (a_cons (e_tup (a_cons e_int (a_cons e_int a_nil))) a_nil))))) a_nil)) (e_callB (call_reprD T.u64 T.gd) o_repr rfl Z.z_repr (by kernel_rfl) (a_cons e_int a_nil))))))))))))))
theorem ok_law (Z : Txt K mg base f fd) : GnOk P w K mg base 9 (f 23) (fd 23) ["_law_script"] (spM ⟨K, mg⟩ m_law) := fn_ok Z.d_law.F sc_law rfl rfl fun cdv A outer s H E T =>
  (ss_cons (s_set (k := 1) (ps_set (i := 1) sc_law.nd rfl (Or.inl rfl)) (c_call Z.d__law_feed (ok__law_feed Z) T (by decide) rfl (a_cons (e_name (pv 0)) a_nil))) (ss_cons (s_set (k := 2) (ps_set (i := 2) sc_law.nd rfl (Or.inl rfl)) (c_call Z.d__law_words (ok__law_words Z) T (by decide) rfl (a_cons (e_name (pv 1)) (a_cons (e_bin x_add o_add e_int (c_call Z.d__law_draw (ok__law_draw Z) T (by decide) rfl (a_cons (e_name (pv 1)) (a_cons e_int a_nil)))) a_nil)))) (ss_cons (s_set (k := 3) (ps_set (i := 3) sc_law.nd rfl (Or.inl rfl)) (c_call Z.d__law_world (ok__law_world Z) T (by decide) rfl (a_cons (e_name (pv 1)) (a_cons (e_name (pv 2)) (a_cons (c_call Z.d__law_draw (ok__law_draw Z) T (by decide) rfl (a_cons (e_name (pv 1)) (a_cons e_int a_nil))) a_nil))))) (ss_cons (s_set (k := 4) (ps_set (i := 4) sc_law.nd rfl (Or.inl rfl)) (c_call Z.d__law_ledger (ok__law_ledger Z) T (by decide) rfl (a_cons (e_name (pv 3)) (a_cons (e_callTy (x_listD rfl) o_listD rfl Z.z_list (by kernel_rfl) (a_cons (e_ix T.u1 (e_name (pv 3)) e_str) a_nil)) a_nil)))) (ss_cons (s_set (k := 5) (ps_set (i := 5) sc_law.nd rfl (Or.inl rfl)) (e_callB (call_reprD T.u64 T.gd) o_repr rfl Z.z_repr (by kernel_rfl) (a_cons (e_tup (a_cons (e_name (pv 4)) (a_cons (c_call Z.d_tops (ok_tops Z) T (by decide) rfl (a_cons (e_name (pv 4)) a_nil)) a_nil))) a_nil))) (ss_cons (s_for T.own rfl (r_rng1 rfl Z.z_range (a_cons e_int a_nil)) (g_name (pg_name (i := 6) sc_law.nd rfl (Or.inl rfl))) (ss_cons (s_par (fun ha => ps_par rfl sc_law.nd rfl rfl (by decide) rfl rfl ha (by with_unfolding_all rfl)) (a_cons (e_tup (a_cons (e_bin x_add o_add e_int (c_call Z.d__law_draw (ok__law_draw Z) T (by decide) rfl (a_cons (e_name (pv 1)) (a_cons e_int a_nil)))) (a_cons (e_ix T.u1 (e_name (pv 2)) (e_name (pv 6))) a_nil))) (a_cons (e_tup (a_cons (e_bin x_add o_add e_int (c_call Z.d__law_draw (ok__law_draw Z) T (by decide) rfl (a_cons (e_name (pv 1)) (a_cons e_int a_nil)))) (a_cons (e_ix T.u1 (e_name (pv 2)) e_int) a_nil))) a_nil))) (ss_one (s_if (t_not (t_tru (c_call Z.d__law_names_right (ok__law_names_right Z) T (by decide) rfl (a_cons (e_name (pv 3)) (a_cons (e_name (pv 4)) (a_cons (e_name (pv 7)) (a_cons (e_name (pv 8)) a_nil))))))) (ss_one (s_ret e_bl)) ss_nil)))) (ss_cons (s_if (PW.pt (t_or (t_not (t_tru (c_call Z.d__law_joins_right (ok__law_joins_right Z) T (by decide) rfl (a_cons (e_name (pv 2)) a_nil)))) (t_or1 (t_not (t_tru (c_call Z.d__law_papers_right (ok__law_papers_right Z) T (by decide) rfl (a_cons (e_name (pv 1)) (a_cons (e_name (pv 2)) a_nil)))))))) (ss_one (s_ret e_bl)) ss_nil) (ss_one (s_ret (e_cmp (op_eqP T.u64) (by with_unfolding_all rfl) o_eq (e_callB (call_reprD T.u64 T.gd) o_repr rfl Z.z_repr (by kernel_rfl) (a_cons (e_tup (a_cons (e_name (pv 4)) (a_cons (c_call Z.d_tops (ok_tops Z) T (by decide) rfl (a_cons (e_name (pv 4)) a_nil)) a_nil))) a_nil)) (e_name (pv 5))))))))))))
end
theorem all_mk {l : PySem.W.OpenLaw} {w : World} {K : PySem.W.Frag} {h : Heap} {mg : Str → Option Value} {fa : Addr} (X : K.In h) (G : h.Ns mainGlobals mg) (hfa : mg "law" = some (.ref fa))
    {f0 f1 f2 f3 f4 f5 f6 f7 f8 f9 f10 f11 f12 f13 f14 f15 f16 f17 f18 f19 f20 f21 f22 f23 f24 f25 f26 f27 f28 f29 f30 f31 f32 f33 f34 f35 f36 : Addr} {od0 an0 od1 an1 od2 an2 od3 an3 od4 an4 od5 an5 od6 an6 od7 an7 od8 an8 od9 an9 od10 an10 od11 an11 od12 an12 od13 an13 od14 an14 od15 an15 od16 an16 od17 an17 od18 an18 od19 an19 od20 an20 od21 an21 od22 an22 od23 an23 od34 an34 od35 an35 od36 an36 : Option Addr} {sl0 sl1 sl2 sl3 sl4 sl5 sl6 sl7 sl8 sl9 sl10 sl11 sl12 sl13 sl14 sl15 sl16 sl17 sl18 sl19 sl20 sl21 sl22 sl23 sl34 sl35 sl36 : Array (Option Value)} {oc0 kV0 dc0 pm0 cd0 ct0 oc1 kV1 dc1 pm1 cd1 ct1 oc2 kV2 dc2 pm2 cd2 ct2 oc3 kV3 dc3 pm3 cd3 ct3 oc4 kV4 dc4 pm4 cd4 ct4 oc5 kV5 dc5 pm5 cd5 ct5 oc6 kV6 dc6 pm6 cd6 ct6 oc7 kV7 dc7 pm7 cd7 ct7 oc8 kV8 dc8 pm8 cd8 ct8 oc9 kV9 dc9 pm9 cd9 ct9 oc10 kV10 dc10 pm10 cd10 ct10 oc11 kV11 dc11 pm11 cd11 ct11 oc12 kV12 dc12 pm12 cd12 ct12 oc13 kV13 dc13 pm13 cd13 ct13 oc14 kV14 dc14 pm14 cd14 ct14 oc15 kV15 dc15 pm15 cd15 ct15 oc16 kV16 dc16 pm16 cd16 ct16 oc17 kV17 dc17 pm17 cd17 ct17 oc18 kV18 dc18 pm18 cd18 ct18 oc19 kV19 dc19 pm19 cd19 ct19 oc20 kV20 dc20 pm20 cd20 ct20 oc21 kV21 dc21 pm21 cd21 ct21 oc22 kV22 dc22 pm22 cd22 ct22 oc23 kV23 dc23 pm23 cd23 ct23 oc34 kV34 dc34 pm34 cd34 ct34 oc35 kV35 dc35 pm35 cd35 ct35 oc36 kV36 dc36 pm36 cd36 ct36 : Value}
    (a0 : PySem.W.nsIn K mainGlobals "change_of" = some (some (.ref f0))) (l0 : K.lookup f0 = some ⟨oc0, od0, .func (PySem.W.fnOf "change_of" "change_of" (defArgs s_change_of) (defBody s_change_of) (defScope s_change_of) .none kV0 dc0 pm0 an0 cd0 ct0), sl0⟩) (c0 : PySem.W.codeIn K cd0 "change_of" = true) (k0 : PySem.W.keepIn K (.ref f0) = true)
    (a1 : PySem.W.nsIn K mainGlobals "spread" = some (some (.ref f1))) (l1 : K.lookup f1 = some ⟨oc1, od1, .func (PySem.W.fnOf "spread" "spread" (defArgs s_spread) (defBody s_spread) (defScope s_spread) .none kV1 dc1 pm1 an1 cd1 ct1), sl1⟩) (c1 : PySem.W.codeIn K cd1 "spread" = true) (k1 : PySem.W.keepIn K (.ref f1) = true)
    (a2 : PySem.W.nsIn K mainGlobals "known" = some (some (.ref f2))) (l2 : K.lookup f2 = some ⟨oc2, od2, .func (PySem.W.fnOf "known" "known" (defArgs s_known) (defBody s_known) (defScope s_known) .none kV2 dc2 pm2 an2 cd2 ct2), sl2⟩) (c2 : PySem.W.codeIn K cd2 "known" = true) (k2 : PySem.W.keepIn K (.ref f2) = true)
    (a3 : PySem.W.nsIn K mainGlobals "knows" = some (some (.ref f3))) (l3 : K.lookup f3 = some ⟨oc3, od3, .func (PySem.W.fnOf "knows" "knows" (defArgs s_knows) (defBody s_knows) (defScope s_knows) .none kV3 dc3 pm3 an3 cd3 ct3), sl3⟩) (c3 : PySem.W.codeIn K cd3 "knows" = true) (k3 : PySem.W.keepIn K (.ref f3) = true)
    (a4 : PySem.W.nsIn K mainGlobals "tops" = some (some (.ref f4))) (l4 : K.lookup f4 = some ⟨oc4, od4, .func (PySem.W.fnOf "tops" "tops" (defArgs s_tops) (defBody s_tops) (defScope s_tops) .none kV4 dc4 pm4 an4 cd4 ct4), sl4⟩) (c4 : PySem.W.codeIn K cd4 "tops" = true) (k4 : PySem.W.keepIn K (.ref f4) = true)
    (a5 : PySem.W.nsIn K mainGlobals "is_number" = some (some (.ref f5))) (l5 : K.lookup f5 = some ⟨oc5, od5, .func (PySem.W.fnOf "is_number" "is_number" (defArgs s_is_number) (defBody s_is_number) (defScope s_is_number) .none kV5 dc5 pm5 an5 cd5 ct5), sl5⟩) (c5 : PySem.W.codeIn K cd5 "is_number" = true) (k5 : PySem.W.keepIn K (.ref f5) = true)
    (a6 : PySem.W.nsIn K mainGlobals "exchanged" = some (some (.ref f6))) (l6 : K.lookup f6 = some ⟨oc6, od6, .func (PySem.W.fnOf "exchanged" "exchanged" (defArgs s_exchanged) (defBody s_exchanged) (defScope s_exchanged) .none kV6 dc6 pm6 an6 cd6 ct6), sl6⟩) (c6 : PySem.W.codeIn K cd6 "exchanged" = true) (k6 : PySem.W.keepIn K (.ref f6) = true)
    (a7 : PySem.W.nsIn K mainGlobals "need" = some (some (.ref f7))) (l7 : K.lookup f7 = some ⟨oc7, od7, .func (PySem.W.fnOf "need" "need" (defArgs s_need) (defBody s_need) (defScope s_need) .none kV7 dc7 pm7 an7 cd7 ct7), sl7⟩) (c7 : PySem.W.codeIn K cd7 "need" = true) (k7 : PySem.W.keepIn K (.ref f7) = true)
    (a8 : PySem.W.nsIn K mainGlobals "lets_exchanges" = some (some (.ref f8))) (l8 : K.lookup f8 = some ⟨oc8, od8, .func (PySem.W.fnOf "lets_exchanges" "lets_exchanges" (defArgs s_lets_exchanges) (defBody s_lets_exchanges) (defScope s_lets_exchanges) .none kV8 dc8 pm8 an8 cd8 ct8), sl8⟩) (c8 : PySem.W.codeIn K cd8 "lets_exchanges" = true) (k8 : PySem.W.keepIn K (.ref f8) = true)
    (a9 : PySem.W.nsIn K mainGlobals "by_names" = some (some (.ref f9))) (l9 : K.lookup f9 = some ⟨oc9, od9, .func (PySem.W.fnOf "by_names" "by_names" (defArgs s_by_names) (defBody s_by_names) (defScope s_by_names) .none kV9 dc9 pm9 an9 cd9 ct9), sl9⟩) (c9 : PySem.W.codeIn K cd9 "by_names" = true) (k9 : PySem.W.keepIn K (.ref f9) = true)
    (a10 : PySem.W.nsIn K mainGlobals "joined" = some (some (.ref f10))) (l10 : K.lookup f10 = some ⟨oc10, od10, .func (PySem.W.fnOf "joined" "joined" (defArgs s_joined) (defBody s_joined) (defScope s_joined) .none kV10 dc10 pm10 an10 cd10 ct10), sl10⟩) (c10 : PySem.W.codeIn K cd10 "joined" = true) (k10 : PySem.W.keepIn K (.ref f10) = true)
    (a11 : PySem.W.nsIn K mainGlobals "_law_feed" = some (some (.ref f11))) (l11 : K.lookup f11 = some ⟨oc11, od11, .func (PySem.W.fnOf "_law_feed" "_law_feed" (defArgs s__law_feed) (defBody s__law_feed) (defScope s__law_feed) .none kV11 dc11 pm11 an11 cd11 ct11), sl11⟩) (c11 : PySem.W.codeIn K cd11 "_law_feed" = true) (k11 : PySem.W.keepIn K (.ref f11) = true)
    (a12 : PySem.W.nsIn K mainGlobals "_law_draw" = some (some (.ref f12))) (l12 : K.lookup f12 = some ⟨oc12, od12, .func (PySem.W.fnOf "_law_draw" "_law_draw" (defArgs s__law_draw) (defBody s__law_draw) (defScope s__law_draw) .none kV12 dc12 pm12 an12 cd12 ct12), sl12⟩) (c12 : PySem.W.codeIn K cd12 "_law_draw" = true) (k12 : PySem.W.keepIn K (.ref f12) = true)
    (a13 : PySem.W.nsIn K mainGlobals "_law_words" = some (some (.ref f13))) (l13 : K.lookup f13 = some ⟨oc13, od13, .func (PySem.W.fnOf "_law_words" "_law_words" (defArgs s__law_words) (defBody s__law_words) (defScope s__law_words) .none kV13 dc13 pm13 an13 cd13 ct13), sl13⟩) (c13 : PySem.W.codeIn K cd13 "_law_words" = true) (k13 : PySem.W.keepIn K (.ref f13) = true)
    (a14 : PySem.W.nsIn K mainGlobals "_law_deed" = some (some (.ref f14))) (l14 : K.lookup f14 = some ⟨oc14, od14, .func (PySem.W.fnOf "_law_deed" "_law_deed" (defArgs s__law_deed) (defBody s__law_deed) (defScope s__law_deed) .none kV14 dc14 pm14 an14 cd14 ct14), sl14⟩) (c14 : PySem.W.codeIn K cd14 "_law_deed" = true) (k14 : PySem.W.keepIn K (.ref f14) = true)
    (a15 : PySem.W.nsIn K mainGlobals "_law_step" = some (some (.ref f15))) (l15 : K.lookup f15 = some ⟨oc15, od15, .func (PySem.W.fnOf "_law_step" "_law_step" (defArgs s__law_step) (defBody s__law_step) (defScope s__law_step) .none kV15 dc15 pm15 an15 cd15 ct15), sl15⟩) (c15 : PySem.W.codeIn K cd15 "_law_step" = true) (k15 : PySem.W.keepIn K (.ref f15) = true)
    (a16 : PySem.W.nsIn K mainGlobals "_law_world" = some (some (.ref f16))) (l16 : K.lookup f16 = some ⟨oc16, od16, .func (PySem.W.fnOf "_law_world" "_law_world" (defArgs s__law_world) (defBody s__law_world) (defScope s__law_world) .none kV16 dc16 pm16 an16 cd16 ct16), sl16⟩) (c16 : PySem.W.codeIn K cd16 "_law_world" = true) (k16 : PySem.W.keepIn K (.ref f16) = true)
    (a17 : PySem.W.nsIn K mainGlobals "_law_ledger" = some (some (.ref f17))) (l17 : K.lookup f17 = some ⟨oc17, od17, .func (PySem.W.fnOf "_law_ledger" "_law_ledger" (defArgs s__law_ledger) (defBody s__law_ledger) (defScope s__law_ledger) .none kV17 dc17 pm17 an17 cd17 ct17), sl17⟩) (c17 : PySem.W.codeIn K cd17 "_law_ledger" = true) (k17 : PySem.W.keepIn K (.ref f17) = true)
    (a18 : PySem.W.nsIn K mainGlobals "_law_refused" = some (some (.ref f18))) (l18 : K.lookup f18 = some ⟨oc18, od18, .func (PySem.W.fnOf "_law_refused" "_law_refused" (defArgs s__law_refused) (defBody s__law_refused) (defScope s__law_refused) .none kV18 dc18 pm18 an18 cd18 ct18), sl18⟩) (c18 : PySem.W.codeIn K cd18 "_law_refused" = true) (k18 : PySem.W.keepIn K (.ref f18) = true)
    (a19 : PySem.W.nsIn K mainGlobals "_law_names_right" = some (some (.ref f19))) (l19 : K.lookup f19 = some ⟨oc19, od19, .func (PySem.W.fnOf "_law_names_right" "_law_names_right" (defArgs s__law_names_right) (defBody s__law_names_right) (defScope s__law_names_right) .none kV19 dc19 pm19 an19 cd19 ct19), sl19⟩) (c19 : PySem.W.codeIn K cd19 "_law_names_right" = true) (k19 : PySem.W.keepIn K (.ref f19) = true)
    (a20 : PySem.W.nsIn K mainGlobals "_law_put" = some (some (.ref f20))) (l20 : K.lookup f20 = some ⟨oc20, od20, .func (PySem.W.fnOf "_law_put" "_law_put" (defArgs s__law_put) (defBody s__law_put) (defScope s__law_put) .none kV20 dc20 pm20 an20 cd20 ct20), sl20⟩) (c20 : PySem.W.codeIn K cd20 "_law_put" = true) (k20 : PySem.W.keepIn K (.ref f20) = true)
    (a21 : PySem.W.nsIn K mainGlobals "_law_joins_right" = some (some (.ref f21))) (l21 : K.lookup f21 = some ⟨oc21, od21, .func (PySem.W.fnOf "_law_joins_right" "_law_joins_right" (defArgs s__law_joins_right) (defBody s__law_joins_right) (defScope s__law_joins_right) .none kV21 dc21 pm21 an21 cd21 ct21), sl21⟩) (c21 : PySem.W.codeIn K cd21 "_law_joins_right" = true) (k21 : PySem.W.keepIn K (.ref f21) = true)
    (a22 : PySem.W.nsIn K mainGlobals "_law_papers_right" = some (some (.ref f22))) (l22 : K.lookup f22 = some ⟨oc22, od22, .func (PySem.W.fnOf "_law_papers_right" "_law_papers_right" (defArgs s__law_papers_right) (defBody s__law_papers_right) (defScope s__law_papers_right) .none kV22 dc22 pm22 an22 cd22 ct22), sl22⟩) (c22 : PySem.W.codeIn K cd22 "_law_papers_right" = true) (k22 : PySem.W.keepIn K (.ref f22) = true)
    (a23 : PySem.W.nsIn K mainGlobals "law" = some (some (.ref f23))) (l23 : K.lookup f23 = some ⟨oc23, od23, .func (PySem.W.fnOf "law" "law" (defArgs s_law) (defBody s_law) (defScope s_law) .none kV23 dc23 pm23 an23 cd23 ct23), sl23⟩) (c23 : PySem.W.codeIn K cd23 "law" = true) (k23 : PySem.W.keepIn K (.ref f23) = true)
    {nm24 q24 : Str} {N24 : Addr} {bs24 : List Value} {sn24 : List Str} {sub24 : List Value} {ab24 : Bool} {col24 : Option Bool} {dd24 : Option Addr} {m024 m124 m224 m324 m524 : Option Value}
    (aC24 : PySem.W.nsIn K mainGlobals "NoPaper" = some (some (.ref f24))) (xL24 : K.lookup f24 = some (excClassObj nm24 q24 f24 N24 bs24 [.ref f27, .type "ValueError", .type "Exception", .type "BaseException", .type "object"] true sn24 sub24 ab24 col24 dd24 m024 m124 m224 m324 m524 "ValueError.__new__"))
    (sa24 : PySem.W.findIn K (.ref f24) "__setattr__" = some (some (.builtin "object.__setattr__"))) (eC24 : PySem.W.subIn K (.ref f24) (.type "BaseException") = some true) (tC24 : PySem.W.typeIn K (.ref f24) = some (.type "type")) (kC24 : PySem.W.keepIn K (.ref f24) = true)
    (ga24 : PySem.W.findIn K (.ref f24) "__getattribute__" = some (some (.builtin "BaseException.__getattribute__"))) (gg24 : PySem.W.findIn K (.ref f24) "__getattr__" = some none) (hd24 : PySem.W.hasDictIn K f24 = true)
    (ha24 : PySem.W.findIn K (.ref f24) "__class__" = some (some (.builtin "object.__class__"))) (hn24 : PySem.W.specialIn K (.builtin "object.__class__") "__get__" = some (some (.builtin "getset_descriptor.__get__"))) (ht24 : PySem.W.takesIn K (.builtin "object.__class__") = some true) (hm24 : PySem.W.mroIn K f24 (.type "object") = some true)
    (a124 : PySem.W.findIn K (.ref f24) "__init__" = some (some (.ref f34))) (t124 : PySem.W.typeIn K (.ref f34) = some (.type "function"))
    (l34 : K.lookup f34 = some ⟨oc34, od34, .func (PySem.W.fnOf "__init__" "NoPaper.__init__" (defArgs (iniS s_NoPaper)) (defBody (iniS s_NoPaper)) (defScope (iniS s_NoPaper)) .none kV34 dc34 pm34 an34 cd34 ct34), sl34⟩) (c34 : PySem.W.codeIn K cd34 "NoPaper.__init__" = true) (k34 : PySem.W.keepIn K (.ref f34) = true)
    (no24_word : PySem.W.findIn K (.ref f24) "word" = some none)
    (no24_at : PySem.W.findIn K (.ref f24) "at" = some none)
    {nm25 q25 : Str} {N25 : Addr} {bs25 : List Value} {sn25 : List Str} {sub25 : List Value} {ab25 : Bool} {col25 : Option Bool} {dd25 : Option Addr} {m025 m125 m225 m325 m525 : Option Value}
    (aC25 : PySem.W.nsIn K mainGlobals "NoJoin" = some (some (.ref f25))) (xL25 : K.lookup f25 = some (excClassObj nm25 q25 f25 N25 bs25 [.ref f27, .type "ValueError", .type "Exception", .type "BaseException", .type "object"] true sn25 sub25 ab25 col25 dd25 m025 m125 m225 m325 m525 "ValueError.__new__"))
    (sa25 : PySem.W.findIn K (.ref f25) "__setattr__" = some (some (.builtin "object.__setattr__"))) (eC25 : PySem.W.subIn K (.ref f25) (.type "BaseException") = some true) (tC25 : PySem.W.typeIn K (.ref f25) = some (.type "type")) (kC25 : PySem.W.keepIn K (.ref f25) = true)
    (ga25 : PySem.W.findIn K (.ref f25) "__getattribute__" = some (some (.builtin "BaseException.__getattribute__"))) (gg25 : PySem.W.findIn K (.ref f25) "__getattr__" = some none) (hd25 : PySem.W.hasDictIn K f25 = true)
    (ha25 : PySem.W.findIn K (.ref f25) "__class__" = some (some (.builtin "object.__class__"))) (hn25 : PySem.W.specialIn K (.builtin "object.__class__") "__get__" = some (some (.builtin "getset_descriptor.__get__"))) (ht25 : PySem.W.takesIn K (.builtin "object.__class__") = some true) (hm25 : PySem.W.mroIn K f25 (.type "object") = some true)
    (a125 : PySem.W.findIn K (.ref f25) "__init__" = some (some (.ref f35))) (t125 : PySem.W.typeIn K (.ref f35) = some (.type "function"))
    (l35 : K.lookup f35 = some ⟨oc35, od35, .func (PySem.W.fnOf "__init__" "NoJoin.__init__" (defArgs (iniS s_NoJoin)) (defBody (iniS s_NoJoin)) (defScope (iniS s_NoJoin)) .none kV35 dc35 pm35 an35 cd35 ct35), sl35⟩) (c35 : PySem.W.codeIn K cd35 "NoJoin.__init__" = true) (k35 : PySem.W.keepIn K (.ref f35) = true)
    (no25_name : PySem.W.findIn K (.ref f25) "name" = some none)
    (no25_word : PySem.W.findIn K (.ref f25) "word" = some none)
    {nm26 q26 : Str} {N26 : Addr} {bs26 : List Value} {sn26 : List Str} {sub26 : List Value} {ab26 : Bool} {col26 : Option Bool} {dd26 : Option Addr} {m026 m126 m226 m326 m526 : Option Value}
    (aC26 : PySem.W.nsIn K mainGlobals "NoName" = some (some (.ref f26))) (xL26 : K.lookup f26 = some (excClassObj nm26 q26 f26 N26 bs26 [.ref f27, .type "ValueError", .type "Exception", .type "BaseException", .type "object"] true sn26 sub26 ab26 col26 dd26 m026 m126 m226 m326 m526 "ValueError.__new__"))
    (sa26 : PySem.W.findIn K (.ref f26) "__setattr__" = some (some (.builtin "object.__setattr__"))) (eC26 : PySem.W.subIn K (.ref f26) (.type "BaseException") = some true) (tC26 : PySem.W.typeIn K (.ref f26) = some (.type "type")) (kC26 : PySem.W.keepIn K (.ref f26) = true)
    (ga26 : PySem.W.findIn K (.ref f26) "__getattribute__" = some (some (.builtin "BaseException.__getattribute__"))) (gg26 : PySem.W.findIn K (.ref f26) "__getattr__" = some none) (hd26 : PySem.W.hasDictIn K f26 = true)
    (ha26 : PySem.W.findIn K (.ref f26) "__class__" = some (some (.builtin "object.__class__"))) (hn26 : PySem.W.specialIn K (.builtin "object.__class__") "__get__" = some (some (.builtin "getset_descriptor.__get__"))) (ht26 : PySem.W.takesIn K (.builtin "object.__class__") = some true) (hm26 : PySem.W.mroIn K f26 (.type "object") = some true)
    (a126 : PySem.W.findIn K (.ref f26) "__init__" = some (some (.ref f36))) (t126 : PySem.W.typeIn K (.ref f36) = some (.type "function"))
    (l36 : K.lookup f36 = some ⟨oc36, od36, .func (PySem.W.fnOf "__init__" "NoName.__init__" (defArgs (iniS s_NoName)) (defBody (iniS s_NoName)) (defScope (iniS s_NoName)) .none kV36 dc36 pm36 an36 cd36 ct36), sl36⟩) (c36 : PySem.W.codeIn K cd36 "NoName.__init__" = true) (k36 : PySem.W.keepIn K (.ref f36) = true)
    (no26_name : PySem.W.findIn K (.ref f26) "name" = some none)
    (nA27 : PySem.W.nsIn K mainGlobals "MarginError" = some (some (.ref f27))) (nB27 : PySem.W.isClsIn K f27 = true) (nC27 : PySem.W.typeIn K (.ref f27) = some (.type "type")) (nD27 : PySem.W.subIn K (.ref f27) (.type "BaseException") = some true)
    (nA24 : PySem.W.nsIn K mainGlobals "NoPaper" = some (some (.ref f24))) (nB24 : PySem.W.isClsIn K f24 = true) (nC24 : PySem.W.typeIn K (.ref f24) = some (.type "type")) (nD24 : PySem.W.subIn K (.ref f24) (.type "BaseException") = some true)
    (nA28 : PySem.W.nsIn K mainGlobals "NoChange" = some (some (.ref f28))) (nB28 : PySem.W.isClsIn K f28 = true) (nC28 : PySem.W.typeIn K (.ref f28) = some (.type "type")) (nD28 : PySem.W.subIn K (.ref f28) (.type "BaseException") = some true)
    (nA25 : PySem.W.nsIn K mainGlobals "NoJoin" = some (some (.ref f25))) (nB25 : PySem.W.isClsIn K f25 = true) (nC25 : PySem.W.typeIn K (.ref f25) = some (.type "type")) (nD25 : PySem.W.subIn K (.ref f25) (.type "BaseException") = some true)
    (nA26 : PySem.W.nsIn K mainGlobals "NoName" = some (some (.ref f26))) (nB26 : PySem.W.isClsIn K f26 = true) (nC26 : PySem.W.typeIn K (.ref f26) = some (.type "type")) (nD26 : PySem.W.subIn K (.ref f26) (.type "BaseException") = some true)
    (nA29 : PySem.W.nsIn K mainGlobals "NoBase" = some (some (.ref f29))) (nB29 : PySem.W.isClsIn K f29 = true) (nC29 : PySem.W.typeIn K (.ref f29) = some (.type "type")) (nD29 : PySem.W.subIn K (.ref f29) (.type "BaseException") = some true)
    (nA30 : PySem.W.nsIn K mainGlobals "NoBranch" = some (some (.ref f30))) (nB30 : PySem.W.isClsIn K f30 = true) (nC30 : PySem.W.typeIn K (.ref f30) = some (.type "type")) (nD30 : PySem.W.subIn K (.ref f30) (.type "BaseException") = some true)
    (nA31 : PySem.W.nsIn K mainGlobals "NoStrike" = some (some (.ref f31))) (nB31 : PySem.W.isClsIn K f31 = true) (nC31 : PySem.W.typeIn K (.ref f31) = some (.type "type")) (nD31 : PySem.W.subIn K (.ref f31) (.type "BaseException") = some true)
    (nA32 : PySem.W.nsIn K mainGlobals "NoText" = some (some (.ref f32))) (nB32 : PySem.W.isClsIn K f32 = true) (nC32 : PySem.W.typeIn K (.ref f32) = some (.type "type")) (nD32 : PySem.W.subIn K (.ref f32) (.type "BaseException") = some true)
    (nA33 : PySem.W.nsIn K mainGlobals "NoRow" = some (some (.ref f33))) (nB33 : PySem.W.isClsIn K f33 = true) (nC33 : PySem.W.typeIn K (.ref f33) = some (.type "type")) (nD33 : PySem.W.subIn K (.ref f33) (.type "BaseException") = some true)
    (bA27 : PySem.W.readsIn K f27 (.type "type") = true) (bB27 : PySem.W.findCls K (.ref f27) (.type "type") "__init__" = some (.val (.builtin "ValueError.__init__"))) (bC27 : PySem.W.specialIn K (.ref f27) "__getattribute__" = some (some (.builtin "type.__getattribute__")))
    (p_NoJoin_MarginError : PySem.W.subIn K (.ref f25) (.ref f27) = some true)
    (p_NoJoin_NoBase : PySem.W.subIn K (.ref f25) (.ref f29) = some false)
    (p_NoJoin_NoBranch : PySem.W.subIn K (.ref f25) (.ref f30) = some false)
    (p_NoJoin_NoChange : PySem.W.subIn K (.ref f25) (.ref f28) = some false)
    (p_NoJoin_NoJoin : PySem.W.subIn K (.ref f25) (.ref f25) = some true)
    (p_NoJoin_NoName : PySem.W.subIn K (.ref f25) (.ref f26) = some false)
    (p_NoJoin_NoPaper : PySem.W.subIn K (.ref f25) (.ref f24) = some false)
    (p_NoJoin_NoRow : PySem.W.subIn K (.ref f25) (.ref f33) = some false)
    (p_NoJoin_NoStrike : PySem.W.subIn K (.ref f25) (.ref f31) = some false)
    (p_NoJoin_NoText : PySem.W.subIn K (.ref f25) (.ref f32) = some false)
    (p_NoJoin_ValueError : PySem.W.subIn K (.ref f25) (.type "ValueError") = some true)
    (p_NoName_MarginError : PySem.W.subIn K (.ref f26) (.ref f27) = some true)
    (p_NoName_NoBase : PySem.W.subIn K (.ref f26) (.ref f29) = some false)
    (p_NoName_NoBranch : PySem.W.subIn K (.ref f26) (.ref f30) = some false)
    (p_NoName_NoChange : PySem.W.subIn K (.ref f26) (.ref f28) = some false)
    (p_NoName_NoJoin : PySem.W.subIn K (.ref f26) (.ref f25) = some false)
    (p_NoName_NoName : PySem.W.subIn K (.ref f26) (.ref f26) = some true)
    (p_NoName_NoPaper : PySem.W.subIn K (.ref f26) (.ref f24) = some false)
    (p_NoName_NoRow : PySem.W.subIn K (.ref f26) (.ref f33) = some false)
    (p_NoName_NoStrike : PySem.W.subIn K (.ref f26) (.ref f31) = some false)
    (p_NoName_NoText : PySem.W.subIn K (.ref f26) (.ref f32) = some false)
    (p_NoName_ValueError : PySem.W.subIn K (.ref f26) (.type "ValueError") = some true)
    (p_NoPaper_MarginError : PySem.W.subIn K (.ref f24) (.ref f27) = some true)
    (p_NoPaper_NoBase : PySem.W.subIn K (.ref f24) (.ref f29) = some false)
    (p_NoPaper_NoBranch : PySem.W.subIn K (.ref f24) (.ref f30) = some false)
    (p_NoPaper_NoChange : PySem.W.subIn K (.ref f24) (.ref f28) = some false)
    (p_NoPaper_NoJoin : PySem.W.subIn K (.ref f24) (.ref f25) = some false)
    (p_NoPaper_NoName : PySem.W.subIn K (.ref f24) (.ref f26) = some false)
    (p_NoPaper_NoPaper : PySem.W.subIn K (.ref f24) (.ref f24) = some true)
    (p_NoPaper_NoRow : PySem.W.subIn K (.ref f24) (.ref f33) = some false)
    (p_NoPaper_NoStrike : PySem.W.subIn K (.ref f24) (.ref f31) = some false)
    (p_NoPaper_NoText : PySem.W.subIn K (.ref f24) (.ref f32) = some false)
    (p_NoPaper_ValueError : PySem.W.subIn K (.ref f24) (.type "ValueError") = some true)
    (z_ValueError : PySem.W.nsIn K mainGlobals "ValueError" = some none)
    (z_bool : PySem.W.nsIn K mainGlobals "bool" = some none)
    (z_enumerate : PySem.W.nsIn K mainGlobals "enumerate" = some none)
    (z_int : PySem.W.nsIn K mainGlobals "int" = some none)
    (z_isinstance : PySem.W.nsIn K mainGlobals "isinstance" = some none)
    (z_len : PySem.W.nsIn K mainGlobals "len" = some none)
    (z_list : PySem.W.nsIn K mainGlobals "list" = some none)
    (z_max : PySem.W.nsIn K mainGlobals "max" = some none)
    (z_min : PySem.W.nsIn K mainGlobals "min" = some none)
    (z_range : PySem.W.nsIn K mainGlobals "range" = some none)
    (z_repr : PySem.W.nsIn K mainGlobals "repr" = some none)
    (z_reversed : PySem.W.nsIn K mainGlobals "reversed" = some none)
    (z_set : PySem.W.nsIn K mainGlobals "set" = some none)
    (z_sorted : PySem.W.nsIn K mainGlobals "sorted" = some none)
    (z_tuple : PySem.W.nsIn K mainGlobals "tuple" = some none)
    {cT0 tT0 : Addr} {eT0 : Value} {dT0 : Option Addr} {vsT0 : Array Value} {slT0 : Array (Option Value)} (hcT0 : cd19 = .ref cT0) (lT0 : K.lookup cT0 = some ⟨eT0, dT0, .fields vsT0, slT0⟩) (vT0 : vsT0[11]? = some (Value.ref tT0)) (nT0 : K.lookup tT0 = none)
    {cT1 tT1 : Addr} {eT1 : Value} {dT1 : Option Addr} {vsT1 : Array Value} {slT1 : Array (Option Value)} (hcT1 : cd21 = .ref cT1) (lT1 : K.lookup cT1 = some ⟨eT1, dT1, .fields vsT1, slT1⟩) (vT1 : vsT1[11]? = some (Value.ref tT1)) (nT1 : K.lookup tT1 = none)
    {cT2 tT2 : Addr} {eT2 : Value} {dT2 : Option Addr} {vsT2 : Array Value} {slT2 : Array (Option Value)} (hcT2 : cd22 = .ref cT2) (lT2 : K.lookup cT2 = some ⟨eT2, dT2, .fields vsT2, slT2⟩) (vT2 : vsT2[11]? = some (Value.ref tT2)) (nT2 : K.lookup tT2 = none)
    (dT0_1 : tT0 ≠ tT1)
    (dT0_2 : tT0 ≠ tT2)
    (dT1_2 : tT1 ≠ tT2)
    : ∃ (fd : FuncData) (ts : List (Str × Addr × Addr)), TabsAt K ts ∧ (∀ (s : Shared) (v : Value), BindsTo s fd ⟨[v], []⟩ [("_law_script", v)]) ∧ ∀ base : Heap, K.In base → base.Ns mainGlobals mg → (∀ t ∈ (ts : List (Str × Addr × Addr)), LamX.TabB base mg t.2.1 t.2.2) → Cm.tb ⟨K, mg⟩ = (ts : List (Str × Addr × Addr)).map (fun t => (t.2.2, ((t.1 ++ (".<locals>." : Str)) ++ ("<lambda>" : Str) : Str))) → GnOk l.prog w K mg base 9 fa fd ["_law_script"] (spM ⟨K, mg⟩ m_law) := by
  have e : fa = f23 := by have e := hfa.symm.trans (PySem.W.mg_of X G a23); cases e; rfl
  rw [e]
  have aT0 : PySem.W.tabIn K "_law_names_right" = some (cT0, tT0) := by
    unfold PySem.W.tabIn
    simp only [a19, l19, PySem.W.fnOf, hcT0, lT0, vT0]
  have aT1 : PySem.W.tabIn K "_law_joins_right" = some (cT1, tT1) := by
    unfold PySem.W.tabIn
    simp only [a21, l21, PySem.W.fnOf, hcT1, lT1, vT1]
  have aT2 : PySem.W.tabIn K "_law_papers_right" = some (cT2, tT2) := by
    unfold PySem.W.tabIn
    simp only [a22, l22, PySem.W.fnOf, hcT2, lT2, vT2]
  have Z : ∀ base : Heap, (∀ t ∈ ([(("_law_names_right" : Str), cT0, tT0), (("_law_joins_right" : Str), cT1, tT1), (("_law_papers_right" : Str), cT2, tT2)] : List (Str × Addr × Addr)), LamX.TabB base mg t.2.1 t.2.2) → Cm.tb ⟨K, mg⟩ = ([(("_law_names_right" : Str), cT0, tT0), (("_law_joins_right" : Str), cT1, tT1), (("_law_papers_right" : Str), cT2, tT2)] : List (Str × Addr × Addr)).map (fun t => (t.2.2, ((t.1 ++ (".<locals>." : Str)) ++ ("<lambda>" : Str) : Str))) → Txt K mg base (fun n => [f0, f1, f2, f3, f4, f5, f6, f7, f8, f9, f10, f11, f12, f13, f14, f15, f16, f17, f18, f19, f20, f21, f22, f23, f24, f25, f26, f27, f28, f29, f30, f31, f32, f33, f34, f35, f36].getD n 0) (fun n => [PySem.W.fnOf "change_of" "change_of" (defArgs s_change_of) (defBody s_change_of) (defScope s_change_of) .none kV0 dc0 pm0 an0 cd0 ct0, PySem.W.fnOf "spread" "spread" (defArgs s_spread) (defBody s_spread) (defScope s_spread) .none kV1 dc1 pm1 an1 cd1 ct1, PySem.W.fnOf "known" "known" (defArgs s_known) (defBody s_known) (defScope s_known) .none kV2 dc2 pm2 an2 cd2 ct2, PySem.W.fnOf "knows" "knows" (defArgs s_knows) (defBody s_knows) (defScope s_knows) .none kV3 dc3 pm3 an3 cd3 ct3, PySem.W.fnOf "tops" "tops" (defArgs s_tops) (defBody s_tops) (defScope s_tops) .none kV4 dc4 pm4 an4 cd4 ct4, PySem.W.fnOf "is_number" "is_number" (defArgs s_is_number) (defBody s_is_number) (defScope s_is_number) .none kV5 dc5 pm5 an5 cd5 ct5, PySem.W.fnOf "exchanged" "exchanged" (defArgs s_exchanged) (defBody s_exchanged) (defScope s_exchanged) .none kV6 dc6 pm6 an6 cd6 ct6, PySem.W.fnOf "need" "need" (defArgs s_need) (defBody s_need) (defScope s_need) .none kV7 dc7 pm7 an7 cd7 ct7, PySem.W.fnOf "lets_exchanges" "lets_exchanges" (defArgs s_lets_exchanges) (defBody s_lets_exchanges) (defScope s_lets_exchanges) .none kV8 dc8 pm8 an8 cd8 ct8, PySem.W.fnOf "by_names" "by_names" (defArgs s_by_names) (defBody s_by_names) (defScope s_by_names) .none kV9 dc9 pm9 an9 cd9 ct9, PySem.W.fnOf "joined" "joined" (defArgs s_joined) (defBody s_joined) (defScope s_joined) .none kV10 dc10 pm10 an10 cd10 ct10, PySem.W.fnOf "_law_feed" "_law_feed" (defArgs s__law_feed) (defBody s__law_feed) (defScope s__law_feed) .none kV11 dc11 pm11 an11 cd11 ct11, PySem.W.fnOf "_law_draw" "_law_draw" (defArgs s__law_draw) (defBody s__law_draw) (defScope s__law_draw) .none kV12 dc12 pm12 an12 cd12 ct12, PySem.W.fnOf "_law_words" "_law_words" (defArgs s__law_words) (defBody s__law_words) (defScope s__law_words) .none kV13 dc13 pm13 an13 cd13 ct13, PySem.W.fnOf "_law_deed" "_law_deed" (defArgs s__law_deed) (defBody s__law_deed) (defScope s__law_deed) .none kV14 dc14 pm14 an14 cd14 ct14, PySem.W.fnOf "_law_step" "_law_step" (defArgs s__law_step) (defBody s__law_step) (defScope s__law_step) .none kV15 dc15 pm15 an15 cd15 ct15, PySem.W.fnOf "_law_world" "_law_world" (defArgs s__law_world) (defBody s__law_world) (defScope s__law_world) .none kV16 dc16 pm16 an16 cd16 ct16, PySem.W.fnOf "_law_ledger" "_law_ledger" (defArgs s__law_ledger) (defBody s__law_ledger) (defScope s__law_ledger) .none kV17 dc17 pm17 an17 cd17 ct17, PySem.W.fnOf "_law_refused" "_law_refused" (defArgs s__law_refused) (defBody s__law_refused) (defScope s__law_refused) .none kV18 dc18 pm18 an18 cd18 ct18, PySem.W.fnOf "_law_names_right" "_law_names_right" (defArgs s__law_names_right) (defBody s__law_names_right) (defScope s__law_names_right) .none kV19 dc19 pm19 an19 cd19 ct19, PySem.W.fnOf "_law_put" "_law_put" (defArgs s__law_put) (defBody s__law_put) (defScope s__law_put) .none kV20 dc20 pm20 an20 cd20 ct20, PySem.W.fnOf "_law_joins_right" "_law_joins_right" (defArgs s__law_joins_right) (defBody s__law_joins_right) (defScope s__law_joins_right) .none kV21 dc21 pm21 an21 cd21 ct21, PySem.W.fnOf "_law_papers_right" "_law_papers_right" (defArgs s__law_papers_right) (defBody s__law_papers_right) (defScope s__law_papers_right) .none kV22 dc22 pm22 an22 cd22 ct22, PySem.W.fnOf "law" "law" (defArgs s_law) (defBody s_law) (defScope s_law) .none kV23 dc23 pm23 an23 cd23 ct23, PySem.W.fnOf "change_of" "change_of" (defArgs s_change_of) (defBody s_change_of) (defScope s_change_of) .none kV0 dc0 pm0 an0 cd0 ct0, PySem.W.fnOf "change_of" "change_of" (defArgs s_change_of) (defBody s_change_of) (defScope s_change_of) .none kV0 dc0 pm0 an0 cd0 ct0, PySem.W.fnOf "change_of" "change_of" (defArgs s_change_of) (defBody s_change_of) (defScope s_change_of) .none kV0 dc0 pm0 an0 cd0 ct0, PySem.W.fnOf "change_of" "change_of" (defArgs s_change_of) (defBody s_change_of) (defScope s_change_of) .none kV0 dc0 pm0 an0 cd0 ct0, PySem.W.fnOf "change_of" "change_of" (defArgs s_change_of) (defBody s_change_of) (defScope s_change_of) .none kV0 dc0 pm0 an0 cd0 ct0, PySem.W.fnOf "change_of" "change_of" (defArgs s_change_of) (defBody s_change_of) (defScope s_change_of) .none kV0 dc0 pm0 an0 cd0 ct0, PySem.W.fnOf "change_of" "change_of" (defArgs s_change_of) (defBody s_change_of) (defScope s_change_of) .none kV0 dc0 pm0 an0 cd0 ct0, PySem.W.fnOf "change_of" "change_of" (defArgs s_change_of) (defBody s_change_of) (defScope s_change_of) .none kV0 dc0 pm0 an0 cd0 ct0, PySem.W.fnOf "change_of" "change_of" (defArgs s_change_of) (defBody s_change_of) (defScope s_change_of) .none kV0 dc0 pm0 an0 cd0 ct0, PySem.W.fnOf "change_of" "change_of" (defArgs s_change_of) (defBody s_change_of) (defScope s_change_of) .none kV0 dc0 pm0 an0 cd0 ct0, PySem.W.fnOf "__init__" "NoPaper.__init__" (defArgs (iniS s_NoPaper)) (defBody (iniS s_NoPaper)) (defScope (iniS s_NoPaper)) .none kV34 dc34 pm34 an34 cd34 ct34, PySem.W.fnOf "__init__" "NoJoin.__init__" (defArgs (iniS s_NoJoin)) (defBody (iniS s_NoJoin)) (defScope (iniS s_NoJoin)) .none kV35 dc35 pm35 an35 cd35 ct35, PySem.W.fnOf "__init__" "NoName.__init__" (defArgs (iniS s_NoName)) (defBody (iniS s_NoName)) (defScope (iniS s_NoName)) .none kV36 dc36 pm36 an36 cd36 ct36].getD n (PySem.W.fnOf "change_of" "change_of" (defArgs s_change_of) (defBody s_change_of) (defScope s_change_of) .none kV0 dc0 pm0 an0 cd0 ct0)) := by
    intro base hB hQ
    constructor
    · exact ⟨fun_mk (st := s_change_of) l0 c0 k0, (fun_mk (st := s_change_of) l0 c0 k0).binds (ps := ["ledger", "name"]) fun _ _ _ _ _ _ us hl => match us, hl with | [_, _], _ => rfl, PySem.W.mg_of X G a0⟩
    · exact ⟨fun_mk (st := s_spread) l1 c1 k1, (fun_mk (st := s_spread) l1 c1 k1).binds (ps := ["ledger", "names"]) fun _ _ _ _ _ _ us hl => match us, hl with | [_, _], _ => rfl, PySem.W.mg_of X G a1⟩
    · exact ⟨fun_mk (st := s_known) l2 c2 k2, (fun_mk (st := s_known) l2 c2 k2).binds (ps := ["ledger", "name"]) fun _ _ _ _ _ _ us hl => match us, hl with | [_, _], _ => rfl, PySem.W.mg_of X G a2⟩
    · exact ⟨fun_mk (st := s_knows) l3 c3 k3, (fun_mk (st := s_knows) l3 c3 k3).binds (ps := ["ledger", "one", "other"]) fun _ _ _ _ _ _ us hl => match us, hl with | [_, _, _], _ => rfl, PySem.W.mg_of X G a3⟩
    · exact ⟨fun_mk (st := s_tops) l4 c4 k4, (fun_mk (st := s_tops) l4 c4 k4).binds (ps := ["ledger"]) fun _ _ _ _ _ _ us hl => match us, hl with | [_], _ => rfl, PySem.W.mg_of X G a4⟩
    · exact ⟨fun_mk (st := s_is_number) l5 c5 k5, (fun_mk (st := s_is_number) l5 c5 k5).binds (ps := ["thing"]) fun _ _ _ _ _ _ us hl => match us, hl with | [_], _ => rfl, PySem.W.mg_of X G a5⟩
    · exact ⟨fun_mk (st := s_exchanged) l6 c6 k6, (fun_mk (st := s_exchanged) l6 c6 k6).binds (ps := ["road", "k"]) fun _ _ _ _ _ _ us hl => match us, hl with | [_, _], _ => rfl, PySem.W.mg_of X G a6⟩
    · exact ⟨fun_mk (st := s_need) l7 c7 k7, (fun_mk (st := s_need) l7 c7 k7).binds (ps := ["truth", "word", "at"]) fun _ _ _ _ _ _ us hl => match us, hl with | [_, _, _], _ => rfl, PySem.W.mg_of X G a7⟩
    · exact ⟨fun_mk (st := s_lets_exchanges) l8 c8 k8, (fun_mk (st := s_lets_exchanges) l8 c8 k8).binds (ps := ["ledger", "one", "other", "thing"]) fun _ _ _ _ _ _ us hl => match us, hl with | [_, _, _, _], _ => rfl, PySem.W.mg_of X G a8⟩
    · exact ⟨fun_mk (st := s_by_names) l9 c9 k9, (fun_mk (st := s_by_names) l9 c9 k9).binds (ps := ["ledger"]) fun _ _ _ _ _ _ us hl => match us, hl with | [_], _ => rfl, PySem.W.mg_of X G a9⟩
    · exact ⟨fun_mk (st := s_joined) l10 c10 k10, (fun_mk (st := s_joined) l10 c10 k10).binds (ps := ["one", "other"]) fun _ _ _ _ _ _ us hl => match us, hl with | [_, _], _ => rfl, PySem.W.mg_of X G a10⟩
    · exact ⟨fun_mk (st := s__law_feed) l11 c11 k11, (fun_mk (st := s__law_feed) l11 c11 k11).binds (ps := ["_law_script"]) fun _ _ _ _ _ _ us hl => match us, hl with | [_], _ => rfl, PySem.W.mg_of X G a11⟩
    · exact ⟨fun_mk (st := s__law_draw) l12 c12 k12, (fun_mk (st := s__law_draw) l12 c12 k12).binds (ps := ["_law_feed_here", "_law_many"]) fun _ _ _ _ _ _ us hl => match us, hl with | [_, _], _ => rfl, PySem.W.mg_of X G a12⟩
    · exact ⟨fun_mk (st := s__law_words) l13 c13 k13, (fun_mk (st := s__law_words) l13 c13 k13).binds (ps := ["_law_feed_here", "_law_many"]) fun _ _ _ _ _ _ us hl => match us, hl with | [_, _], _ => rfl, PySem.W.mg_of X G a13⟩
    · exact ⟨fun_mk (st := s__law_deed) l14 c14 k14, (fun_mk (st := s__law_deed) l14 c14 k14).binds (ps := ["_law_feed_here", "_law_world_here", "_law_base", "_law_floor"]) fun _ _ _ _ _ _ us hl => match us, hl with | [_, _, _, _], _ => rfl, PySem.W.mg_of X G a14⟩
    · exact ⟨fun_mk (st := s__law_step) l15 c15 k15, (fun_mk (st := s__law_step) l15 c15 k15).binds (ps := ["_law_feed_here", "_law_world_here", "_law_words_here"]) fun _ _ _ _ _ _ us hl => match us, hl with | [_, _, _], _ => rfl, PySem.W.mg_of X G a15⟩
    · exact ⟨fun_mk (st := s__law_world) l16 c16 k16, (fun_mk (st := s__law_world) l16 c16 k16).binds (ps := ["_law_feed_here", "_law_words_here", "_law_many"]) fun _ _ _ _ _ _ us hl => match us, hl with | [_, _, _], _ => rfl, PySem.W.mg_of X G a16⟩
    · exact ⟨fun_mk (st := s__law_ledger) l17 c17 k17, (fun_mk (st := s__law_ledger) l17 c17 k17).binds (ps := ["_law_world_here", "_law_names"]) fun _ _ _ _ _ _ us hl => match us, hl with | [_, _], _ => rfl, PySem.W.mg_of X G a17⟩
    · exact ⟨fun_mk (st := s__law_refused) l18 c18 k18, (fun_mk (st := s__law_refused) l18 c18 k18).binds (ps := ["_law_ask"]) fun _ _ _ _ _ _ us hl => match us, hl with | [_], _ => rfl, PySem.W.mg_of X G a18⟩
    · exact ⟨fun_mk (st := s__law_names_right) l19 c19 k19, (fun_mk (st := s__law_names_right) l19 c19 k19).binds (ps := ["_law_world_here", "_law_ledger_here", "_law_name", "_law_other"]) fun _ _ _ _ _ _ us hl => match us, hl with | [_, _, _, _], _ => rfl, PySem.W.mg_of X G a19⟩
    · exact ⟨fun_mk (st := s__law_put) l20 c20 k20, (fun_mk (st := s__law_put) l20 c20 k20).binds (ps := ["_law_name", "_law_hand", "_law_base"]) fun _ _ _ _ _ _ us hl => match us, hl with | [_, _, _], _ => rfl, PySem.W.mg_of X G a20⟩
    · exact ⟨fun_mk (st := s__law_joins_right) l21 c21 k21, (fun_mk (st := s__law_joins_right) l21 c21 k21).binds (ps := ["_law_words_here"]) fun _ _ _ _ _ _ us hl => match us, hl with | [_], _ => rfl, PySem.W.mg_of X G a21⟩
    · exact ⟨fun_mk (st := s__law_papers_right) l22 c22 k22, (fun_mk (st := s__law_papers_right) l22 c22 k22).binds (ps := ["_law_feed_here", "_law_words_here"]) fun _ _ _ _ _ _ us hl => match us, hl with | [_, _], _ => rfl, PySem.W.mg_of X G a22⟩
    · exact ⟨fun_mk (st := s_law) l23 c23 k23, (fun_mk (st := s_law) l23 c23 k23).binds (ps := ["_law_script"]) fun _ _ _ _ _ _ us hl => match us, hl with | [_], _ => rfl, PySem.W.mg_of X G a23⟩
    · exact ⟨PySem.W.mg_of X G aC24, ⟨⟨nm24, q24, N24, bs24, _, sn24, sub24, ab24, col24, dd24, m024, m124, m224, m324, m524, xL24, by rfl⟩, sa24, eC24, tC24, kC24⟩, all2 no24_word no24_at, a124, t124, fun_mk (st := iniS s_NoPaper) l34 c34 k34, (fun_mk (st := iniS s_NoPaper) l34 c34 k34).binds (ps := ["self", "word", "at"]) fun _ _ _ _ _ _ us hl => match us, hl with | [_, _, _], _ => rfl, ⟨ga24, gg24, eC24, hd24, ha24, hn24, ht24, hm24⟩⟩
    · exact ⟨PySem.W.mg_of X G aC25, ⟨⟨nm25, q25, N25, bs25, _, sn25, sub25, ab25, col25, dd25, m025, m125, m225, m325, m525, xL25, by rfl⟩, sa25, eC25, tC25, kC25⟩, all2 no25_name no25_word, a125, t125, fun_mk (st := iniS s_NoJoin) l35 c35 k35, (fun_mk (st := iniS s_NoJoin) l35 c35 k35).binds (ps := ["self", "name", "word"]) fun _ _ _ _ _ _ us hl => match us, hl with | [_, _, _], _ => rfl, ⟨ga25, gg25, eC25, hd25, ha25, hn25, ht25, hm25⟩⟩
    · exact ⟨PySem.W.mg_of X G aC26, ⟨⟨nm26, q26, N26, bs26, _, sn26, sub26, ab26, col26, dd26, m026, m126, m226, m326, m526, xL26, by rfl⟩, sa26, eC26, tC26, kC26⟩, all1 no26_name, a126, t126, fun_mk (st := iniS s_NoName) l36 c36 k36, (fun_mk (st := iniS s_NoName) l36 c36 k36).binds (ps := ["self", "name"]) fun _ _ _ _ _ _ us hl => match us, hl with | [_, _], _ => rfl, ⟨ga26, gg26, eC26, hd26, ha26, hn26, ht26, hm26⟩⟩
    · exact ⟨PySem.W.mg_of X G nA27, nB27, nC27, nD27⟩
    · exact ⟨PySem.W.mg_of X G nA24, nB24, nC24, nD24⟩
    · exact ⟨PySem.W.mg_of X G nA28, nB28, nC28, nD28⟩
    · exact ⟨PySem.W.mg_of X G nA25, nB25, nC25, nD25⟩
    · exact ⟨PySem.W.mg_of X G nA26, nB26, nC26, nD26⟩
    · exact ⟨PySem.W.mg_of X G nA29, nB29, nC29, nD29⟩
    · exact ⟨PySem.W.mg_of X G nA30, nB30, nC30, nD30⟩
    · exact ⟨PySem.W.mg_of X G nA31, nB31, nC31, nD31⟩
    · exact ⟨PySem.W.mg_of X G nA32, nB32, nC32, nD32⟩
    · exact ⟨PySem.W.mg_of X G nA33, nB33, nC33, nD33⟩
    · exact ⟨⟨_, bA27, bB27⟩, bC27⟩
    · exact p_NoJoin_MarginError
    · exact p_NoJoin_NoBase
    · exact p_NoJoin_NoBranch
    · exact p_NoJoin_NoChange
    · exact p_NoJoin_NoJoin
    · exact p_NoJoin_NoName
    · exact p_NoJoin_NoPaper
    · exact p_NoJoin_NoRow
    · exact p_NoJoin_NoStrike
    · exact p_NoJoin_NoText
    · exact p_NoJoin_ValueError
    · exact p_NoName_MarginError
    · exact p_NoName_NoBase
    · exact p_NoName_NoBranch
    · exact p_NoName_NoChange
    · exact p_NoName_NoJoin
    · exact p_NoName_NoName
    · exact p_NoName_NoPaper
    · exact p_NoName_NoRow
    · exact p_NoName_NoStrike
    · exact p_NoName_NoText
    · exact p_NoName_ValueError
    · exact p_NoPaper_MarginError
    · exact p_NoPaper_NoBase
    · exact p_NoPaper_NoBranch
    · exact p_NoPaper_NoChange
    · exact p_NoPaper_NoJoin
    · exact p_NoPaper_NoName
    · exact p_NoPaper_NoPaper
    · exact p_NoPaper_NoRow
    · exact p_NoPaper_NoStrike
    · exact p_NoPaper_NoText
    · exact p_NoPaper_ValueError
    · exact PySem.W.mg_none_of X G z_ValueError
    · exact PySem.W.mg_none_of X G z_bool
    · exact PySem.W.mg_none_of X G z_enumerate
    · exact PySem.W.mg_none_of X G z_int
    · exact PySem.W.mg_none_of X G z_isinstance
    · exact PySem.W.mg_none_of X G z_len
    · exact PySem.W.mg_none_of X G z_list
    · exact PySem.W.mg_none_of X G z_max
    · exact PySem.W.mg_none_of X G z_min
    · exact PySem.W.mg_none_of X G z_range
    · exact PySem.W.mg_none_of X G z_repr
    · exact PySem.W.mg_none_of X G z_reversed
    · exact PySem.W.mg_none_of X G z_set
    · exact PySem.W.mg_none_of X G z_sorted
    · exact PySem.W.mg_none_of X G z_tuple
    · exact ⟨cT0, tT0, code_of X G aT0 (PySem.W.mg_of X G a19) l19, hB ("_law_names_right", cT0, tT0) (by simp), by rw [hQ]; exact List.mem_map.mpr ⟨("_law_names_right", cT0, tT0), by simp, rfl⟩, fun p hp e => by
      rw [hQ] at hp
      simp only [List.map_cons, List.map_nil, List.mem_cons, List.not_mem_nil, or_false] at hp
      rcases hp with rfl | rfl | rfl
      all_goals first | exact absurd e dT0_1 | exact absurd e (Ne.symm dT0_1) | exact absurd e dT0_2 | exact absurd e (Ne.symm dT0_2) | exact absurd e dT1_2 | exact absurd e (Ne.symm dT1_2) | rfl⟩
    · exact ⟨cT1, tT1, code_of X G aT1 (PySem.W.mg_of X G a21) l21, hB ("_law_joins_right", cT1, tT1) (by simp), by rw [hQ]; exact List.mem_map.mpr ⟨("_law_joins_right", cT1, tT1), by simp, rfl⟩, fun p hp e => by
      rw [hQ] at hp
      simp only [List.map_cons, List.map_nil, List.mem_cons, List.not_mem_nil, or_false] at hp
      rcases hp with rfl | rfl | rfl
      all_goals first | exact absurd e dT0_1 | exact absurd e (Ne.symm dT0_1) | exact absurd e dT0_2 | exact absurd e (Ne.symm dT0_2) | exact absurd e dT1_2 | exact absurd e (Ne.symm dT1_2) | rfl⟩
    · exact ⟨cT2, tT2, code_of X G aT2 (PySem.W.mg_of X G a22) l22, hB ("_law_papers_right", cT2, tT2) (by simp), by rw [hQ]; exact List.mem_map.mpr ⟨("_law_papers_right", cT2, tT2), by simp, rfl⟩, fun p hp e => by
      rw [hQ] at hp
      simp only [List.map_cons, List.map_nil, List.mem_cons, List.not_mem_nil, or_false] at hp
      rcases hp with rfl | rfl | rfl
      all_goals first | exact absurd e dT0_1 | exact absurd e (Ne.symm dT0_1) | exact absurd e dT0_2 | exact absurd e (Ne.symm dT0_2) | exact absurd e dT1_2 | exact absurd e (Ne.symm dT1_2) | rfl⟩
  exact ⟨PySem.W.fnOf "law" "law" (defArgs s_law) (defBody s_law) (defScope s_law) .none kV23 dc23 pm23 an23 cd23 ct23, [(("_law_names_right" : Str), cT0, tT0), (("_law_joins_right" : Str), cT1, tT1), (("_law_papers_right" : Str), cT2, tT2)], ⟨rfl, fun t ht => by
    simp only [List.mem_cons, List.not_mem_nil, or_false] at ht
    rcases ht with rfl | rfl | rfl
    · exact ⟨aT0, nT0⟩
    · exact ⟨aT1, nT1⟩
    · exact ⟨aT2, nT2⟩⟩, fun s v => .of_eq rfl, fun base _ _ hB hQ => ok_law (Z base hB hQ)⟩
end K16

namespace Px
open PySem hiding Env plain
open L2 Mx StrLaws PySem.W
local macro_rules | `(tactic| simp! [$ls,*]) => `(tactic| try simp -implicitDefEqProofs only [w_enumT, v_enumC, v_enumT, v_seqC, v_lenC, v_listC, v_listRL, w_keys, List.map_cons, List.map_nil, List.cons_append, List.nil_append, List.replicate, List.set_cons_succ, List.set_cons_zero, wipeG, wpS_then, wpS_set, wpS_if, wpS_mret, wpS_retN, wpS_mnext, wpS_mbrk, wpS_mcnt, wpS_exp, wpS_asg, wpS_for, w_c, w_bin, w_un, w_ifE, w_andV, w_orV, w_notV, w_call, w_chain, w_meth, w_meth0, w_sl, w_noPart, w_part, w_nil, w_cons, w_bl, w_tru, w_and, w_or, w_not, w_lcV, w_lcR, w_lc, w_seq, w_rng1, w_rng2, w_var0, w_var1, w_var2, w_var3, w_var4, w_var5, w_var6, w_var7, w_var8, w_var9, w_var10, w_var11, w_var12, w_var13, w_var14, w_var15, w_var16, w_var17, w_var18, w_var19, w_var20, w_dictT, w_dictK, w_gTp, wpS_par, wpS_par3, w_zip, w_enum, w_rev, v_zipL, v_zipT, v_enumL, v_revL, v_revT, w_gsCons, w_gsNil, w_callK, wpR_ok, wpR_sized, v_nm, v_addI, v_addS, v_addT, v_addL, v_sub, v_neg, w_mul, w_div, w_mod, w_pow, v_ordI, v_eqI, v_neI, v_eqS, v_neS, v_lenS, v_lenL, v_lenF, v_lenT, v_truB, v_seqS, v_seqT, v_seqL, v_seqF, v_listT, v_listL, v_tupleL, v_tupleT, v_tupD, v_lstD, v_lstR, v_slT, v_slL, v_slF, w_slS, defD_rt, defD_nx, defD_ex, defD_bk, defD_ct, AV.bl.injEq, AV.int.injEq, Option.some.injEq, exists_eq_left', tyS, if_true, if_false, Bool.false_eq_true, true_and, and_true, $ls,*])
theorem w_signX {P : Nat → Prop} {n : Nat} {z : Str} {i : Int} {M : AH} {Q : AV → AH → Prop} {E : Str → List (Str × AV) → AH → Prop} (h : Tx P n z) (hn : n ≤ 16777216) (h0 : 0 ≤ i) (h1 : i < z.length) (q : ∀ c, P c → z.cps.toList[i.toNat]? = some c → Q (chrA c) M) : wpR (gIx (.str z) (.int i) M) Q E := by
  have := h.len
  rw [w_ixS (by omega)]
  have hlt : i.toNat < z.cps.toList.length := by
    rw [Array.length_toList]
    have : i < (z.cps.size : Int) := h1
    omega
  exact ⟨_, at_nn (xs := z.cps.toList) h0 (by rw [Array.length_toList]; exact h1), q _ (h.all _ (List.getElem_mem _)) (List.getElem?_eq_getElem hlt)⟩
theorem rng_at {n : Nat} {j : Nat} {a : AV} (h : (rngItems 0 n)[j]? = some a) : a = .int (0 + (j : Int)) := by
  unfold rngItems at h
  rw [List.getElem?_map] at h
  cases e : (List.range n)[j]? with
  | none => rw [e] at h; cases h
  | some k =>
    rw [e] at h
    have hj := (List.getElem?_eq_some_iff.mp e)
    obtain ⟨h1, h2⟩ := hj
    rw [List.getElem_range] at h2
    subst h2
    exact (Option.some.inj h).symm
theorem nd_pow (c : Nat) (n : Nat) : ((List.range n).map fun k : Nat => strMul ⟨#[c]⟩ (0 + (k : Int) + 1)).Nodup := by
  have hl : ∀ k : Nat, (strMul ⟨#[c]⟩ (0 + (k : Int) + 1)).cps.size = k + 1 := fun k => by
    show ((List.replicate (0 + (k : Int) + 1).toNat [c]).flatten).toArray.size = _
    rw [List.size_toArray]
    have : ∀ m : Nat, ((List.replicate m [c]).flatten).length = m := fun m => by
      induction m with
      | zero => rfl
      | succ m ih => simp [List.replicate_succ, ih]
    rw [this]
    omega
  refine List.nodup_iff_pairwise_ne.mpr (List.pairwise_map.mpr ?_)
  refine List.Pairwise.imp (fun {a b} hab z => ?_) List.nodup_range
  have := congrArg (fun s : Str => s.cps.size) z
  simp only [hl] at this
  exact hab (by omega)
def OwnAt (abc : Str) (at' start sp : Int) (ws : List Str) : Prop := ∀ (i : Nat) (y : Str), ws[i]? = some y → y.cps.toList[at'.toNat]? = abc.cps.toList[((start + (i : Int) * sp).fmod 26).toNat]?
section
variable {abc : Str} {at' start sp : Int} {ws : List Str}
theorem own_nil : OwnAt abc at' start sp [] := fun i y h => by simp at h
theorem own_snoc {y : Str} (h : OwnAt abc at' start sp ws) (hy : y.cps.toList[at'.toNat]? = abc.cps.toList[((start + (ws.length : Int) * sp).fmod 26).toNat]?) : OwnAt abc at' start sp (ws ++ [y]) := fun i z hz => by
  by_cases hi : i < ws.length
  · rw [List.getElem?_append_left hi] at hz
    exact h i z hz
  · rw [List.getElem?_append_right (by omega)] at hz
    have e : i - ws.length = 0 := by
      have := (List.getElem?_eq_some_iff.mp hz).1
      simp at this
      omega
    rw [e] at hz
    have ez : y = z := by simpa using hz
    have ei : i = ws.length := by omega
    rw [← ez, ei]
    exact hy
theorem own_pos (x : Str) (c : Nat) (t : Str) (t0 : 0 ≤ at') (t1 : at' ≤ x.length) {o : Option Nat} (ho : o = some c) : (cutS x none (some at') ++ ⟨#[c]⟩ ++ cutS x (some at') none ++ t).cps.toList[at'.toNat]? = o := by
  subst ho
  have hl := cut_len x none (some at')
  have ha : at' = ((at'.toNat : Nat) : Int) := by omega
  rw [ha, HT.sIx_nat] at hl
  have l0 : HT.sIx x.length 0 none = 0 := rfl
  rw [l0, ← ha] at hl
  have hl2 : (cutS x none (some at')).cps.toList.length = at'.toNat := by
    rw [Array.length_toList]
    show (cutS x none (some at')).length = _
    omega
  generalize cutS x none (some at') = A at *
  generalize cutS x (some at') none = B at *
  show (((A.cps ++ #[c]) ++ B.cps) ++ t.cps).toList[at'.toNat]? = some c
  simp only [Array.toList_append, List.append_assoc]
  rw [List.getElem?_append_right (by omega), hl2, Nat.sub_self]
  rfl
theorem own_nd (n26 : abc.cps.toList.Nodup) (l26 : abc.length = 26) (spv : sp = 1 ∨ sp = 3 ∨ sp = 5 ∨ sp = 7 ∨ sp = 9 ∨ sp = 25) (hl : ws.length ≤ 6) (h : OwnAt abc at' start sp ws) : ws.Nodup := by
  have hlen : abc.cps.toList.length = 26 := by rw [Array.length_toList]; exact l26
  refine List.nodup_iff_pairwise_ne.mpr (List.pairwise_iff_getElem.mpr fun i j hi hj hij z => ?_)
  have h1 := h i ws[i] (List.getElem?_eq_getElem hi)
  have h2 := h j ws[j] (List.getElem?_eq_getElem hj)
  rw [z] at h1
  rw [h1] at h2
  have f1 := fmod_lt (i := start + (i : Int) * sp) (k := 26) (by omega)
  have f2 := fmod_lt (i := start + (j : Int) * sp) (k := 26) (by omega)
  have k1 : ((start + (i : Int) * sp).fmod 26).toNat < abc.cps.toList.length := by omega
  have e := (List.getElem?_inj k1 n26).mp h2
  have e : (start + (i : Int) * sp).fmod 26 = (start + (j : Int) * sp).fmod 26 := by omega
  rw [Int.fmod_eq_emod_of_nonneg _ (by decide), Int.fmod_eq_emod_of_nonneg _ (by decide)] at e
  have hj6 : j < 6 := by omega
  rcases spv with rfl | rfl | rfl | rfl | rfl | rfl <;> omega
end
section
variable {rest : List AV} {fz : List Nat} {M : AH} {P : AV → AH → Prop} {E : Str → List (Str × AV) → AH → Prop} {G : Env}
theorem d_wordsD {n : Nat} (h0 : 0 ∉ fz) (hM : Fs rest fz M) (n1 : n ≤ 6) (q : ∀ ws M', Wds n ws → ws.Nodup → Fs rest fz M' → P (.lst (ws.map .str)) M') : wpR (m_words [.ref 0, .int (n : Int)] M) P E := by
  refine wp_gcL hM ?_
  refine wp_def rfl ?_
  unfold words_b
  have a26 : Tx AnyC 26 ("abcdefghijklmnopqrstuvwxyz" : Str) := ⟨by decide +kernel, by decide +kernel⟩
  have l26 : ("abcdefghijklmnopqrstuvwxyz" : Str).length = 26 := by decide +kernel
  have n26 : ("abcdefghijklmnopqrstuvwxyz" : Str).cps.toList.Nodup := by decide +kernel
  generalize ("abcdefghijklmnopqrstuvwxyz" : Str) = abc at *
  simp! [w_mulS]
  refine d_draw h0 hM (by decide) (by decide) fun r M1 r0 r1 h1 => ?_
  simp! [w_mulS]
  split
  · refine d_draw h0 h1 (by decide) (by decide) fun c M2 c0 c1 h2 => ?_
    refine w_sign a26 (by decide) c0 (by omega) fun c hc => ?_
    simp! [w_mulS]
    rw [w_gRng1 (by unfold rngOk; simp; omega)]
    have hn : (n : Int).toNat = n := by omega
    have hl : lcl ⟨rngItems 0 (n : Int).toNat, none⟩ (gNm 5) (fun _ M => .ok true M) (mBin gMul (mVar 4) (mBin gAdd (mVar 5) (mC (.int 1)))) [some (.ref 0), some (.int (n : Int)), some (.str abc), some (.int r), some (chrA c), none, none, none, none, none, none, none, none] (rngItems 0 (n : Int).toNat) [] M2 =
        .ok ((((List.range n).filter fun _ => true).map fun k : Nat => AV.str (strMul ⟨#[c]⟩ (0 + (k : Int) + 1)))) M2 := by
      have := lcl_map (l0 := rngItems 0 (n : Int).toNat) (t := gNm 5) (c := fun _ M => .ok true M) (el := mBin gMul (mVar 4) (mBin gAdd (mVar 5) (mC (.int 1)))) (G := [some (.ref 0), some (.int (n : Int)), some (.str abc), some (.int r), some (chrA c), none, none, none, none, none, none, none, none]) (M := M2) (fun k : Nat => AV.int (0 + (k : Int))) (fun _ => true) (fun k : Nat => AV.str (strMul ⟨#[c]⟩ (0 + (k : Int) + 1))) (List.range n) [] (by simp; omega) fun k hk => ⟨_, rfl, rfl, fun _ => wpR_eq (by
        have := List.mem_range.mp hk
        simp! [w_mulS]
        exact ⟨by omega, by omega, (show 1 ≤ 1000 by decide)⟩)⟩
      rw [hn]
      rwa [List.nil_append] at this
    have hf : ((List.range n).filter fun _ => true) = List.range n := List.filter_eq_self.mpr fun _ _ => rfl
    rw [hf] at hl
    rw [hl]
    simp! [w_mulS]
    have hw : Wds n ((List.range n).map fun k : Nat => strMul ⟨#[c]⟩ (0 + (k : Int) + 1)) := by
      refine ⟨by simp, fun x hx => ?_⟩
      obtain ⟨k, hk, rfl⟩ := List.mem_map.mp hx
      have := List.mem_range.mp hk
      exact (tx_mul (tx_chr hc) _).mono (by omega) fun _ h => h
    have hnd : ((List.range n).map fun k : Nat => strMul ⟨#[c]⟩ (0 + (k : Int) + 1)).Nodup := nd_pow c n
    have he : ((List.range n).map fun k : Nat => AV.str (strMul ⟨#[c]⟩ (0 + (k : Int) + 1))) = ((List.range n).map fun k : Nat => strMul ⟨#[c]⟩ (0 + (k : Int) + 1)).map .str := by rw [List.map_map]; rfl
    rw [he]
    generalize ((List.range n).map fun k : Nat => strMul ⟨#[c]⟩ (0 + (k : Int) + 1)) = ws at hw hnd ⊢
    refine d_draw h0 h2 (by decide) (by decide) fun d M3 d0 d1 h3 => ?_
    simp! []
    refine ⟨mulOk_left (by decide), ?_⟩
    have hd : d = 0 ∨ d = 1 := by omega
    rcases hd with rfl | rfl
    · rw [show (1 : Int) - 2 * 0 = 1 by omega, v_stepL1, wpR_ok]
      refine ⟨[], by rwa [List.append_nil], .inl ⟨?_, fun M4 h4 => q ws M4 hw hnd h4⟩⟩
      simp only [plain, List.all_eq_true]
      exact fun x hx => plain_mono 0 59 x (by omega) (by obtain ⟨y, _, rfl⟩ := List.mem_map.mp hx; rfl)
    · rw [show (1 : Int) - 2 * 1 = -1 by omega, v_stepL2, wpR_ok]
      refine ⟨[], by rwa [List.append_nil], .inl ⟨?_, fun M4 h4 => ?_⟩⟩
      · simp only [plain, List.all_eq_true]
        exact fun x hx => plain_mono 0 59 x (by omega) (by obtain ⟨y, _, rfl⟩ := List.mem_map.mp (List.mem_reverse.mp hx); rfl)
      · rw [← List.map_reverse]
        exact q ws.reverse M4 ⟨by simp [hw.1], fun x hx => hw.2 x (List.mem_reverse.mp hx)⟩ ((List.reverse_perm ws).nodup_iff.mpr hnd) h4
  · simp! [w_mulS]
    refine d_draw h0 h1 (by decide) (by decide) fun m M2 m0 m1 h2 => ?_
    rw [w_gRng1 (by unfold rngOk; simp; omega)]
    refine wp_lcl (fun acc M => Sgs AnyC 1 acc ∧ Fs rest fz M) _ _ _ (by rw [rng_len]; simp; omega) ⟨Sgs.nil, h2⟩ ?_ ?_
    · rintro k _ acc M ⟨hs, hF⟩
      simp! []
      refine d_draw h0 hF (by omega) (by omega) fun n M2 n0 n1 h2 => ?_
      exact w_sign a26 (by decide) n0 (by omega) fun c hc => ⟨hs.snoc ⟨_, rfl, tx_chr hc⟩, h2⟩
    · rintro acc M3 hl ⟨hs, h3⟩
      rw [rng_len] at hl
      refine w_join (n := 6) hs (by simp at hl; omega) (by decide) fun x hx => ?_
      have hxl := hx.len
      simp! [w_mulS]
      refine ⟨by omega, ?_⟩
      refine d_draw h0 h3 (by omega) (by omega) fun at' M4 t0 t1 h4 => ?_
      simp! [w_mulS]
      refine d_draw h0 h4 (by omega) (by omega) fun start M5 s0 s1 h5 => ?_
      simp! [w_mulS]
      refine ⟨by simp, ?_⟩
      refine d_draw h0 h5 (by omega) (by omega) fun si M6 si0 si1 h6 => ?_
      refine w_one si0 (by simp; omega) fun sp hsp => ?_
      have hsp : ∃ sp' : Int, sp = .int sp' ∧ 0 ≤ sp' ∧ sp' ≤ 25 ∧ (sp' = 1 ∨ sp' = 3 ∨ sp' = 5 ∨ sp' = 7 ∨ sp' = 9 ∨ sp' = 25) := by
        simp only [List.mem_cons, List.not_mem_nil, or_false] at hsp
        rcases hsp with rfl | rfl | rfl | rfl | rfl | rfl <;> exact ⟨_, rfl, by omega, by omega, by omega⟩
      obtain ⟨sp, rfl, sp0, sp1, spv⟩ := hsp
      simp! [w_mulS]
      refine ⟨by simp, ?_⟩
      rw [h6.len]
      have h7 := h6.push (.lst [])
      rw [w_gRng1 (by unfold rngOk; simp; omega)]
      have hn : (n : Int).toNat = n := by omega
      refine wp_loop (fun k G M => (∃ ws : List Str, Wds k ws ∧ OwnAt abc at' start sp ws ∧ Fs (rest ++ [.lst (ws.map .str)]) fz M) ∧ ∃ g5 g11 g12, G = [some (.ref 0), some (.int (n : Int)), some (.str abc), some (.int r), none, g5, some (.str x), some (.int at'), some (.int start), some (.int sp), some (.ref (rest.length + 1)), g11, g12]) _ 0 _ _ ⟨⟨[], ⟨rfl, by simp⟩, own_nil, h7⟩, _, _, _, rfl⟩ ?_ ?_
      · rintro j a G M hj ⟨⟨ws, hw, hown, hF⟩, g5, g11, g12, rfl⟩
        have hj2 : j < n := by
          have := (List.getElem?_eq_some_iff.mp hj).1
          rw [rng_len, hn] at this
          exact this
        obtain ⟨k, hk, rfl, ekj⟩ : ∃ k : Nat, k < n ∧ a = .int (0 + k) ∧ k = j := ⟨j, hj2, rng_at hj, rfl⟩
        simp! [w_mulS]
        refine d_draw h0 hF (by omega) (by omega) fun c M2 c0 c1 h2 => ?_
        refine w_sign a26 (by decide) c0 (by omega) fun c hc => ?_
        simp! [w_mulS]
        refine d_draw h0 h2 (by omega) (by omega) fun u M3 u0 u1 h3 => ?_
        simp! [w_mulS]
        refine ⟨⟨u0, by omega, (show 1 ≤ 1000 by decide)⟩, mulOk_left (lt31 (by omega)), by omega, ?_⟩
        have hm := fmod_lt (i := start + (0 + (k : Int)) * sp) (k := 26) (by omega)
        refine w_signX a26 (by decide) hm.1 (by omega) fun c2 hc2 hat2 => ?_
        simp! [w_mulS]
        have hg : (rest ++ [AV.lst (ws.map .str)])[rest.length]? = some (.lst (ws.map .str)) := by simp
        have t1 := tx_cut hx none (some at')
        have t2 := tx_cut hx (some at') none
        have l1 := cut_len x none (some at')
        have ha : at' = ((at'.toNat : Nat) : Int) := by omega
        rw [ha, HT.sIx_nat] at l1
        have l0 : HT.sIx x.length 0 none = 0 := rfl
        rw [l0, ← ha] at l1
        have l2 := cut_len x (some at') none
        rw [ha, HT.sIx_nat, ← ha] at l2
        have e2 : HT.sIx x.length x.length none = x.length := rfl
        rw [e2] at l2
        have lc : (⟨#[c2]⟩ : Str).length = 1 := rfl
        have tm := tx_mul (tx_chr hc) u
        have lm := tm.len
        have lt := tx_app (tx_app (tx_app t1 (tx_chr hc2)) t2) tm
        refine ⟨f_tyL h3 hg, (by (try simp only [strLen_append]); omega), (by (try simp only [strLen_append]); omega), (by (try simp only [strLen_append]); omega), (by (try simp only [strLen_append]); omega), (by (try simp only [strLen_append]); omega), ?_⟩
        refine f_append h3 hg (by rw [List.length_map, hw.1]; omega) fun M4 h4 => ?_
        have es : (rest ++ [AV.lst (ws.map .str)]).set rest.length (.lst (ws.map .str ++ [.str (cutS x none (some at') ++ ⟨#[c2]⟩ ++ cutS x (some at') none ++ strMul ⟨#[c]⟩ u)])) = rest ++ [.lst ((ws ++ [cutS x none (some at') ++ ⟨#[c2]⟩ ++ cutS x (some at') none ++ strMul ⟨#[c]⟩ u]).map .str)] := by simp
        rw [es] at h4
        refine ⟨⟨_, ⟨by simp [hw.1], fun y hy => ?_⟩, own_snoc hown (by rw [hw.1, Nat.zero_add, ← ekj]; rw [Int.zero_add] at hat2; exact own_pos x c2 _ t0 (by omega) hat2), h4⟩, _, _, _, rfl⟩
        rcases List.mem_append.mp hy with z | z
        · exact hw.2 y z
        · rw [List.mem_singleton.mp z]
          refine ⟨?_, lt.all⟩
          rw [strLen_append, strLen_append, strLen_append]
          omega
      · rintro G M ⟨⟨ws, hw, hown, hF⟩, g5, g11, g12, rfl⟩
        rw [rng_len, hn, Nat.zero_add] at hw
        simp! []
        refine ⟨_, hF, .inr ⟨0, _, rfl, rfl, plain_strs ws, fun M4 h4 => q ws M4 hw (own_nd n26 l26 spv (by rw [hw.1]; exact n1) hown) h4⟩⟩
end
end Px

namespace K16
open PySem hiding Env plain
open L2 Mx Px StrLaws
local macro_rules | `(tactic| simp! [$ls,*]) => `(tactic| try simp -implicitDefEqProofs only [w_enumT, v_enumC, v_enumT, v_seqC, v_lenC, v_listC, v_listRL, w_keys, List.map_cons, List.map_nil, List.cons_append, List.nil_append, List.replicate, List.set_cons_succ, List.set_cons_zero, wipeG, wpS_then, wpS_set, wpS_if, wpS_mret, wpS_retN, wpS_mnext, wpS_mbrk, wpS_mcnt, wpS_exp, wpS_asg, wpS_for, w_c, w_bin, w_un, w_ifE, w_andV, w_orV, w_notV, w_call, w_chain, w_meth, w_meth0, w_sl, w_noPart, w_part, w_nil, w_cons, w_bl, w_tru, w_and, w_or, w_not, w_lcV, w_lcR, w_lc, w_seq, w_rng1, w_rng2, w_var0, w_var1, w_var2, w_var3, w_var4, w_var5, w_var6, w_var7, w_var8, w_var9, w_var10, w_var11, w_var12, w_var13, w_var14, w_var15, w_var16, w_var17, w_var18, w_var19, w_var20, w_dictT, w_dictK, w_gTp, wpS_par, wpS_par3, w_zip, w_enum, w_rev, v_zipL, v_zipT, v_enumL, v_revL, v_revT, w_gsCons, w_gsNil, w_callK, wpR_ok, wpR_sized, v_nm, v_addI, v_addS, v_addT, v_addL, v_sub, v_neg, w_mul, w_div, w_mod, w_pow, v_ordI, v_eqI, v_neI, v_eqS, v_neS, v_lenS, v_lenL, v_lenF, v_lenT, v_truB, v_seqS, v_seqT, v_seqL, v_seqF, v_listT, v_listL, v_tupleL, v_tupleT, v_tupD, v_lstD, v_lstR, v_slT, v_slL, v_slF, w_slS, defD_rt, defD_nx, defD_ex, defD_bk, defD_ct, AV.bl.injEq, AV.int.injEq, Option.some.injEq, exists_eq_left', tyS, if_true, if_false, Bool.false_eq_true, true_and, and_true, $ls,*])
theorem wpS_eqN {r : SR} {G0 : Env} {M0 : AH} (h : wpS r ⟨fun G M => G = G0 ∧ M = M0, fun _ _ => False, fun _ _ _ => False, fun _ _ => False, fun _ _ => False⟩) : r = .next G0 M0 := by
  cases r with
  | next G M => obtain ⟨rfl, rfl⟩ := h; rfl
  | _ => exact h.elim
theorem ap_snoc {xs : List AV} {a : AV} {M : AH} (h : xs.length + 1 ≤ 16777216) : gAppend (.ref M.objs.length) [a] ⟨M.objs ++ [.lst xs], M.fz⟩ = .ok .non ⟨M.objs ++ [.lst (xs ++ [a])], M.fz⟩ := by
  have e : (M.objs ++ [AV.lst xs])[M.objs.length]? = some (.lst xs) := by simp
  simp only [gAppend, e, sized]
  rw [if_pos h]
  simp [setL]
theorem ix_snoc {xs : List AV} {k : Int} {v : AV} {M : AH} (h : atI xs k = some v) : gIx (.ref M.objs.length) (.int k) ⟨M.objs ++ [.lst xs], M.fz⟩ = .ok v ⟨M.objs ++ [.lst xs], M.fz⟩ := by
  have e : (M.objs ++ [AV.lst xs])[M.objs.length]? = some (.lst xs) := by simp
  have e2 : ixA ⟨M.objs ++ [.lst xs], M.fz⟩ (.ref M.objs.length) (.int k) = atI xs k := by simp [ixA, ixO, dctK, dctT, itemsOf, lstR, e]
  unfold gIx
  rw [e2, h]
theorem told_of {tab : List (Str × Bool)} {mh : Str → List (Str × AV) → SM} {c : Str} {fs : List (Str × AV)} {M : AH} {xs ys : List AV} {o : Option AV} {b : Bool} (h1 : tab.lookup c = some b) (h2 : mh c fs [none, some .non, none, none] M = .next [none, some (.tup (.ref M.objs.length :: xs)), none, o] ⟨M.objs ++ [.lst ys], M.fz⟩)
    (hb : b = true) (hx : ∀ x ∈ xs, plain 60 x = true) (hya : ys.all (plain 59) = true := by rfl) : toldR tab mh (.exc c fs M) = .ok (.tup (.lst ys :: xs)) M := by
  subst hb
  have hy : ∀ y ∈ ys, plain 59 y = true := List.all_eq_true.mp hya
  have e : brR tab mh c fs M = .ok (.tup (.ref M.objs.length :: xs)) ⟨M.objs ++ [.lst ys], M.fz⟩ := by
    unfold brR
    simp only [h1, h2]
    rfl
  show gcT (brR tab mh c fs M) M = _
  rw [e]
  have f0 : ∀ x ∈ xs, fin M.objs.length ⟨M.objs ++ [.lst ys], M.fz⟩ x = x := fun x hx' => by
    have := hx x hx'
    cases x <;> first | rfl | (simp [plain] at this)
  have f1 : fin1 M.objs.length ⟨M.objs ++ [.lst ys], M.fz⟩ (.tup (.ref M.objs.length :: xs)) = .tup (.lst ys :: xs) := by
    show AV.tup ((.ref M.objs.length :: xs).map _) = _
    rw [List.map_cons]
    have e3 : xs.map (fin M.objs.length ⟨M.objs ++ [.lst ys], M.fz⟩) = xs := by
      rw [List.map_congr_left (g := fun x => x) f0]
      exact List.map_id' xs
    rw [e3]
    simp [fin]
  have c1 : Clean M.objs.length M ⟨M.objs ++ [.lst ys], M.fz⟩ := ⟨rfl, by simp, fun k c hk hq => .inl (by
    have hq : (M.objs ++ [AV.lst ys])[k]? = some c := hq
    rwa [List.getElem?_append_left hk] at hq)⟩
  have c2 : cl M.objs.length (.tup (.lst ys :: xs)) = true := by
    show cls _ _ = true
    rw [cls, Bool.and_eq_true]
    exact ⟨plain_cls _ 59 ys hy, plain_cls _ 60 xs hx⟩
  have key : gcT (.ok (.tup (.ref M.objs.length :: xs)) ⟨M.objs ++ [.lst ys], M.fz⟩) M = .ok (fin1 M.objs.length ⟨M.objs ++ [.lst ys], M.fz⟩ (.tup (.ref M.objs.length :: xs))) (AH.cut ⟨M.objs ++ [.lst ys], M.fz⟩ M.objs.length) := by
    unfold gcT
    exact if_pos ⟨c1, by rw [f1]; exact c2⟩
  rw [key, f1]
  simp [AH.cut]
theorem told_name (a : AV) (ha : plain 60 a = true) (M : AH) : t__law_refused (.exc "NoName" [(("name" : Str), a)] M) = .ok (.tup (.lst [.bl true, .bl false, .bl false, .bl true, .bl false] :: [a])) M := by
  have e2 : h__law_refused "NoName" [(("name" : Str), a)] [none, some .non, none, none] M = .next [none, some (.tup (.ref M.objs.length :: [a])), none, some (.ref M.objs.length)] ⟨M.objs ++ [.lst [.bl true, .bl false, .bl false, .bl true, .bl false]], M.fz⟩ := by
    refine wpS_eqN ?_
    unfold h__law_refused
    have x0 : ∀ G M, mXi [("NoPaper", false), ("NoJoin", false), ("NoName", true)] "NoName" [(("name" : Str), a)] G M = .ok (.bl true) M := fun G M => xi_ok (by kernel_rfl)
    have x1 : ∀ G M, mXi [("NoPaper", false), ("NoJoin", true), ("NoName", false)] "NoName" [(("name" : Str), a)] G M = .ok (.bl false) M := fun G M => xi_ok (by kernel_rfl)
    have x2 : ∀ G M, mXi [("NoPaper", true), ("NoJoin", false), ("NoName", false)] "NoName" [(("name" : Str), a)] G M = .ok (.bl false) M := fun G M => xi_ok (by kernel_rfl)
    have x3 : ∀ G M, mXi [("NoPaper", true), ("NoJoin", true), ("NoName", true)] "NoName" [(("name" : Str), a)] G M = .ok (.bl true) M := fun G M => xi_ok (by kernel_rfl)
    have x4 : ∀ G M, mXi [("NoPaper", false), ("NoJoin", false), ("NoName", false)] "NoName" [(("name" : Str), a)] G M = .ok (.bl false) M := fun G M => xi_ok (by kernel_rfl)
    have f0 : ∀ G M, mXf "NoName" "name" "NoName" [(("name" : Str), a)] G M = .ok (a) M := fun G M => xf_ok (by kernel_rfl)
    have i0 : ∀ M : AH, gIx (.ref M.objs.length) (.int 0) ⟨M.objs ++ [.lst [.bl true, .bl false, .bl false, .bl true, .bl false]], M.fz⟩ = .ok (.bl true) ⟨M.objs ++ [.lst [.bl true, .bl false, .bl false, .bl true, .bl false]], M.fz⟩ := fun M => ix_snoc rfl
    have a0 : ∀ M : AH, gAppend (.ref M.objs.length) [.bl false] ⟨M.objs ++ [.lst [.bl true, .bl false, .bl false, .bl true]], M.fz⟩ = .ok .non ⟨M.objs ++ [.lst [.bl true, .bl false, .bl false, .bl true, .bl false]], M.fz⟩ := fun M => ap_snoc (by decide)
    have t0 : ∀ M : AH, tyL ⟨M.objs ++ [.lst [.bl true, .bl false, .bl false, .bl true]], M.fz⟩ (.ref M.objs.length) = true := fun M => by simp [tyL, lstR]
    simp! [x0, x1, x2, x3, x4, f0, i0, a0, t0]
    first | done | exact ⟨by simp, by simp⟩ | simp
  refine told_of (b := true) (by kernel_rfl) e2 rfl ?_
  intro x hx
  simp only [List.mem_cons, List.not_mem_nil, or_false] at hx
  first | (rcases hx with rfl | rfl <;> first | exact ha | rfl) | (rw [hx]; exact ha)
theorem told_join (a : AV) (s : Str) (ha : plain 60 a = true) (M : AH) : t__law_refused (.exc "NoJoin" [(("word" : Str), AV.str s), (("name" : Str), a)] M) = .ok (.tup (.lst [.bl false, .bl true, .bl false, .bl true, .bl false] :: [a, AV.str s])) M := by
  have e2 : h__law_refused "NoJoin" [(("word" : Str), AV.str s), (("name" : Str), a)] [none, some .non, none, none] M = .next [none, some (.tup (.ref M.objs.length :: [a, AV.str s])), none, some (.ref M.objs.length)] ⟨M.objs ++ [.lst [.bl false, .bl true, .bl false, .bl true, .bl false]], M.fz⟩ := by
    refine wpS_eqN ?_
    unfold h__law_refused
    have x0 : ∀ G M, mXi [("NoPaper", false), ("NoJoin", false), ("NoName", true)] "NoJoin" [(("word" : Str), AV.str s), (("name" : Str), a)] G M = .ok (.bl false) M := fun G M => xi_ok (by kernel_rfl)
    have x1 : ∀ G M, mXi [("NoPaper", false), ("NoJoin", true), ("NoName", false)] "NoJoin" [(("word" : Str), AV.str s), (("name" : Str), a)] G M = .ok (.bl true) M := fun G M => xi_ok (by kernel_rfl)
    have x2 : ∀ G M, mXi [("NoPaper", true), ("NoJoin", false), ("NoName", false)] "NoJoin" [(("word" : Str), AV.str s), (("name" : Str), a)] G M = .ok (.bl false) M := fun G M => xi_ok (by kernel_rfl)
    have x3 : ∀ G M, mXi [("NoPaper", true), ("NoJoin", true), ("NoName", true)] "NoJoin" [(("word" : Str), AV.str s), (("name" : Str), a)] G M = .ok (.bl true) M := fun G M => xi_ok (by kernel_rfl)
    have x4 : ∀ G M, mXi [("NoPaper", false), ("NoJoin", false), ("NoName", false)] "NoJoin" [(("word" : Str), AV.str s), (("name" : Str), a)] G M = .ok (.bl false) M := fun G M => xi_ok (by kernel_rfl)
    have f0 : ∀ G M, mXf "NoJoin" "name" "NoJoin" [(("word" : Str), AV.str s), (("name" : Str), a)] G M = .ok (a) M := fun G M => xf_ok (by kernel_rfl)
    have f1 : ∀ G M, mXf "NoJoin" "word" "NoJoin" [(("word" : Str), AV.str s), (("name" : Str), a)] G M = .ok (AV.str s) M := fun G M => xf_ok (by kernel_rfl)
    have i0 : ∀ M : AH, gIx (.ref M.objs.length) (.int 0) ⟨M.objs ++ [.lst [.bl false, .bl true, .bl false, .bl true, .bl false]], M.fz⟩ = .ok (.bl false) ⟨M.objs ++ [.lst [.bl false, .bl true, .bl false, .bl true, .bl false]], M.fz⟩ := fun M => ix_snoc rfl
    have i1 : ∀ M : AH, gIx (.ref M.objs.length) (.int 1) ⟨M.objs ++ [.lst [.bl false, .bl true, .bl false, .bl true, .bl false]], M.fz⟩ = .ok (.bl true) ⟨M.objs ++ [.lst [.bl false, .bl true, .bl false, .bl true, .bl false]], M.fz⟩ := fun M => ix_snoc rfl
    have a0 : ∀ M : AH, gAppend (.ref M.objs.length) [.bl false] ⟨M.objs ++ [.lst [.bl false, .bl true, .bl false, .bl true]], M.fz⟩ = .ok .non ⟨M.objs ++ [.lst [.bl false, .bl true, .bl false, .bl true, .bl false]], M.fz⟩ := fun M => ap_snoc (by decide)
    have t0 : ∀ M : AH, tyL ⟨M.objs ++ [.lst [.bl false, .bl true, .bl false, .bl true]], M.fz⟩ (.ref M.objs.length) = true := fun M => by simp [tyL, lstR]
    simp! [x0, x1, x2, x3, x4, f0, f1, i0, i1, a0, t0]
    first | done | exact ⟨by simp, by simp⟩ | simp
  refine told_of (b := true) (by kernel_rfl) e2 rfl ?_
  intro x hx
  simp only [List.mem_cons, List.not_mem_nil, or_false] at hx
  first | (rcases hx with rfl | rfl <;> first | exact ha | rfl) | (rw [hx]; exact ha)
theorem told_paper (s : Str) (k : Int) (M : AH) : t__law_refused (.exc "NoPaper" [(("at" : Str), AV.int k), (("word" : Str), AV.str s)] M) = .ok (.tup (.lst [.bl false, .bl false, .bl true, .bl true, .bl false] :: [AV.str s, AV.int k])) M := by
  have e2 : h__law_refused "NoPaper" [(("at" : Str), AV.int k), (("word" : Str), AV.str s)] [none, some .non, none, none] M = .next [none, some (.tup (.ref M.objs.length :: [AV.str s, AV.int k])), none, some (.ref M.objs.length)] ⟨M.objs ++ [.lst [.bl false, .bl false, .bl true, .bl true, .bl false]], M.fz⟩ := by
    refine wpS_eqN ?_
    unfold h__law_refused
    have x0 : ∀ G M, mXi [("NoPaper", false), ("NoJoin", false), ("NoName", true)] "NoPaper" [(("at" : Str), AV.int k), (("word" : Str), AV.str s)] G M = .ok (.bl false) M := fun G M => xi_ok (by kernel_rfl)
    have x1 : ∀ G M, mXi [("NoPaper", false), ("NoJoin", true), ("NoName", false)] "NoPaper" [(("at" : Str), AV.int k), (("word" : Str), AV.str s)] G M = .ok (.bl false) M := fun G M => xi_ok (by kernel_rfl)
    have x2 : ∀ G M, mXi [("NoPaper", true), ("NoJoin", false), ("NoName", false)] "NoPaper" [(("at" : Str), AV.int k), (("word" : Str), AV.str s)] G M = .ok (.bl true) M := fun G M => xi_ok (by kernel_rfl)
    have x3 : ∀ G M, mXi [("NoPaper", true), ("NoJoin", true), ("NoName", true)] "NoPaper" [(("at" : Str), AV.int k), (("word" : Str), AV.str s)] G M = .ok (.bl true) M := fun G M => xi_ok (by kernel_rfl)
    have x4 : ∀ G M, mXi [("NoPaper", false), ("NoJoin", false), ("NoName", false)] "NoPaper" [(("at" : Str), AV.int k), (("word" : Str), AV.str s)] G M = .ok (.bl false) M := fun G M => xi_ok (by kernel_rfl)
    have f0 : ∀ G M, mXf "NoPaper" "word" "NoPaper" [(("at" : Str), AV.int k), (("word" : Str), AV.str s)] G M = .ok (AV.str s) M := fun G M => xf_ok (by kernel_rfl)
    have f1 : ∀ G M, mXf "NoPaper" "at" "NoPaper" [(("at" : Str), AV.int k), (("word" : Str), AV.str s)] G M = .ok (AV.int k) M := fun G M => xf_ok (by kernel_rfl)
    have i0 : ∀ M : AH, gIx (.ref M.objs.length) (.int 0) ⟨M.objs ++ [.lst [.bl false, .bl false, .bl true, .bl true, .bl false]], M.fz⟩ = .ok (.bl false) ⟨M.objs ++ [.lst [.bl false, .bl false, .bl true, .bl true, .bl false]], M.fz⟩ := fun M => ix_snoc rfl
    have i1 : ∀ M : AH, gIx (.ref M.objs.length) (.int 1) ⟨M.objs ++ [.lst [.bl false, .bl false, .bl true, .bl true, .bl false]], M.fz⟩ = .ok (.bl false) ⟨M.objs ++ [.lst [.bl false, .bl false, .bl true, .bl true, .bl false]], M.fz⟩ := fun M => ix_snoc rfl
    have i2 : ∀ M : AH, gIx (.ref M.objs.length) (.int 2) ⟨M.objs ++ [.lst [.bl false, .bl false, .bl true, .bl true, .bl false]], M.fz⟩ = .ok (.bl true) ⟨M.objs ++ [.lst [.bl false, .bl false, .bl true, .bl true, .bl false]], M.fz⟩ := fun M => ix_snoc rfl
    have a0 : ∀ M : AH, gAppend (.ref M.objs.length) [.bl false] ⟨M.objs ++ [.lst [.bl false, .bl false, .bl true, .bl true]], M.fz⟩ = .ok .non ⟨M.objs ++ [.lst [.bl false, .bl false, .bl true, .bl true, .bl false]], M.fz⟩ := fun M => ap_snoc (by decide)
    have t0 : ∀ M : AH, tyL ⟨M.objs ++ [.lst [.bl false, .bl false, .bl true, .bl true]], M.fz⟩ (.ref M.objs.length) = true := fun M => by simp [tyL, lstR]
    simp! [x0, x1, x2, x3, x4, f0, f1, i0, i1, i2, a0, t0]
    first | done | exact ⟨by simp, by simp⟩ | simp
  refine told_of (b := true) (by kernel_rfl) e2 rfl ?_
  intro x hx
  simp only [List.mem_cons, List.not_mem_nil, or_false] at hx
  first | (rcases hx with rfl | rfl <;> first | exact ha | rfl) | (rw [hx]; exact ha)
end K16

namespace K16
open PySem hiding Env plain
open L2 Mx Px StrLaws
local macro_rules | `(tactic| simp! [$ls,*]) => `(tactic| try simp -implicitDefEqProofs only [w_enumT, v_enumC, v_enumT, v_seqC, v_lenC, v_listC, v_listRL, w_keys, List.map_cons, List.map_nil, List.cons_append, List.nil_append, List.replicate, List.set_cons_succ, List.set_cons_zero, wipeG, wpS_then, wpS_set, wpS_if, wpS_mret, wpS_retN, wpS_mnext, wpS_mbrk, wpS_mcnt, wpS_exp, wpS_asg, wpS_for, w_c, w_bin, w_un, w_ifE, w_andV, w_orV, w_notV, w_call, w_chain, w_meth, w_meth0, w_sl, w_noPart, w_part, w_nil, w_cons, w_bl, w_tru, w_and, w_or, w_not, w_lcV, w_lcR, w_lc, w_seq, w_rng1, w_rng2, w_var0, w_var1, w_var2, w_var3, w_var4, w_var5, w_var6, w_var7, w_var8, w_var9, w_var10, w_var11, w_var12, w_var13, w_var14, w_var15, w_var16, w_var17, w_var18, w_var19, w_var20, w_dictT, w_dictK, w_gTp, wpS_par, wpS_par3, w_zip, w_enum, w_rev, v_zipL, v_zipT, v_enumL, v_revL, v_revT, w_gsCons, w_gsNil, w_callK, wpR_ok, wpR_sized, v_nm, v_addI, v_addS, v_addT, v_addL, v_sub, v_neg, w_mul, w_div, w_mod, w_pow, v_ordI, v_eqI, v_neI, v_eqS, v_neS, v_lenS, v_lenL, v_lenF, v_lenT, v_truB, v_seqS, v_seqT, v_seqL, v_seqF, v_listT, v_listL, v_tupleL, v_tupleT, v_tupD, v_lstD, v_lstR, v_slT, v_slL, v_slF, w_slS, defD_rt, defD_nx, defD_ex, defD_bk, defD_ct, AV.bl.injEq, AV.int.injEq, Option.some.injEq, exists_eq_left', tyS, if_true, if_false, Bool.false_eq_true, true_and, and_true, $ls,*])
theorem e_draw : m__law_draw = m_draw := rfl
theorem e_feed : m__law_feed = m_feed := rfl
theorem e_words : m__law_words = m_words := rfl
theorem e_world : m__law_world = m_world := rfl
theorem e_ledger : m__law_ledger = m_ledger := rfl
theorem e_chof : m_change_of = m_chof := rfl
theorem e_spr : m_spread = m_spr := rfl
theorem e_knn : m_known = m_knn := rfl
theorem e_kno : m_knows = m_kno := rfl
section
variable {w : List Rc} {rest tmp : List AV} {fz : List Nat} {M : AH} {P : AV → AH → Prop} {E : Str → List (Str × AV) → AH → Prop} {one other n o : Nm}
abbrev srtN : AV := .lst [.bl true, .bl false, .bl false, .bl true, .bl false]
def noA (n : Nm) : AV := .tup [srtN, nameA n]
theorem w_tN {r : Res AV} (h : wpR r (fun _ _ => False) (fun c fs M => c = "NoName" ∧ fs = [(("name" : Str), nameA n)] ∧ P (noA n) M)) : wpR (t__law_refused r) P E := by
  cases r with
  | ok a M => exact h.elim
  | exc c fs M =>
    obtain ⟨rfl, rfl, hp⟩ := h
    rw [told_name _ (plain_name n)]
    exact hp
  | stuck => exact h.elim
theorem d_n1 (hM : Fs rest [] M) (hw : WOk w) (hn : n ∉ allN w) (q : ∀ M', Fs rest [] M' → P (noA n) M') : wpR (t__law_refused (m_chof [ledA w (allN w), nameA n] M)) P E :=
  w_tN (d_chof hM hw (fun x hx => mem_allN.mp hx) (fun h => absurd h hn) fun h M1 h1 => ⟨rfl, rfl, q M1 h1⟩)
theorem d_n2 (hM : Fs rest [] M) (hw : WOk w) (hl : w.length ≤ 20) (hn : n ∉ allN w) (q : ∀ M', Fs rest [] M' → P (noA n) M') : wpR (t__law_refused (m_knn [ledA w (allN w), nameA n] M)) P E :=
  w_tN (d_known hM hw hl (all_closed hw) (all_nd hw) (sorted_allN w) (fun h => absurd h hn) fun h M1 h1 => ⟨rfl, rfl, q M1 h1⟩)
theorem d_n3 (hM : Fs rest [] M) (hw : WOk w) (hl : w.length ≤ 20) (hn : n ∉ allN w) (q : ∀ M', Fs rest [] M' → P (noA n) M') : wpR (t__law_refused (m_kno [ledA w (allN w), nameA n, nameA o] M)) P E :=
  w_tN (d_kno hM hw hl (all_closed hw) (sorted_allN w) (fun h => absurd h hn) (fun h M1 h1 => ⟨rfl, rfl, q M1 h1⟩) fun h => absurd h hn)
theorem d_n4 (hM : Fs rest [] M) (hw : WOk w) (hl : w.length ≤ 20) (hn : n ∉ allN w) (ho : o ∈ allN w) (q : ∀ M', Fs rest [] M' → P (noA n) M') : wpR (t__law_refused (m_kno [ledA w (allN w), nameA o, nameA n] M)) P E :=
  w_tN (d_kno hM hw hl (all_closed hw) (sorted_allN w) (fun _ h => absurd h hn) (fun h => absurd ho h) fun h _ M1 h1 => ⟨rfl, rfl, q M1 h1⟩)
theorem sh_noA (h : NmOk n) : Sh 3 1000 (noA n) := by
  have h1 : Sh 1 100 srtN := ⟨by decide +kernel, by decide +kernel, by decide +kernel⟩
  refine (sh_tup (n := 411) (d := 2) (xs := [srtN, nameA n]) fun y hy => ?_).mono (by decide) (by simp)
  simp only [List.mem_cons, List.not_mem_nil, or_false] at hy
  rcases hy with rfl | rfl
  · exact h1.mono (by decide) (by decide)
  · exact h.sh.mono (by decide) (by decide)
theorem f_reprL {i : Nat} {xs : List AV} {d k : Nat} (hM : Fs rest fz M) (hx : rest[i]? = some (.lst xs)) (h : Sh d k (.lst xs)) (hd : d ≤ 60) (hk : k ≤ 16777216) : gRepr [.ref (i + 1)] M = .ok (.str (shw (.lst xs))) M := by
  have e : M.objs[i + 1]? = some (.lst xs) := by rw [hM.get, hx]
  have e2 : top M (.ref (i + 1)) = .lst xs := by simp [top, e]
  have := v_repr (M := M) h hd hk
  simp only [gRepr] at this ⊢
  rw [e2]
  exact this
theorem v_neT0 {xs : List AV} (hp : plain 60 (.tup xs) = true) : gNe (.tup xs) (.tup []) M = .ok (.bl (!xs.isEmpty)) M := by
  rw [v_neP hp rfl rfl rfl]
  cases xs with
  | nil => rfl
  | cons a r => rfl
theorem w_lastT {xs : List AV} {Q : AV → AH → Prop} (h0 : 0 < xs.length) (q : ∀ a ∈ xs, Q a M) : wpR (gIx (.tup xs) (.int (-1)) M) Q E := by
  rw [w_ixT]
  have e : atI xs (-1) = xs[xs.length - 1]? := by
    unfold atI ixN
    have h1 : ¬ (0 : Int) ≤ -1 := by decide
    have h2 : -(xs.length : Int) ≤ -1 := by omega
    simp only [h1, h2, if_true, if_false, Option.bind_some]
    congr 1
    omega
  rw [e, List.getElem?_eq_getElem (by omega)]
  exact ⟨_, rfl, q _ (List.getElem_mem _)⟩
theorem v_rep1 (x : AV) {k : Nat} (hk : k ≤ 100) : gRep (.lst [x]) (.int k) M = .ok (.lst (List.replicate k x)) M := by
  have e : repA [x] (k : Int) = List.replicate k x := by
    unfold repA
    rw [Int.toNat_natCast]
    induction k with
    | zero => rfl
    | succ m ih => rw [List.replicate_succ, List.flatten_cons, ih (by omega)]; rfl
  simp only [gRep, lstX]
  rw [if_pos (by simp; omega), e]
theorem d_namesright (hM : Fs rest [] M) (hw : WOk w) (hl : w.length ≤ 20) (hn : n ∉ allN w) (hok : NmOk n) (q : ∀ M', Fs rest [] M' → P (.bl true) M') : wpR (m__law_names_right [.ref 5, ledA w (allN w), nameA n, nameA o] M) P E := by
  refine wp_gcL hM ?_
  refine wp_def rfl ?_
  unfold b__law_names_right
  rw [e_chof, e_knn, e_kno]
  have hpl : plain 60 (ledA w (allN w)) = true := plain_mono 4 60 _ (by decide) (sh_led hw hl (fun n hn => mem_allN.mp hn) (by rw [len_allN]; omega)).pl
  have g0 : ∀ x : AV, (rest ++ [x])[rest.length]? = some x := fun x => by simp
  have gs : ∀ x y : AV, (rest ++ [x]).set rest.length y = rest ++ [y] := fun x y => by simp
  have hrl : ∀ k : Nat, k ≤ 5 → Sh 4 6000 (.lst (List.replicate k (noA n))) := fun k hk => by
    refine (sh_lst (n := 1000) (d := 3) fun y hy => ?_).mono (by decide) (by rw [List.length_replicate]; omega)
    rw [(List.mem_replicate.mp hy).2]
    exact sh_noA hok
  refine wp_seq (fun G M => G = [some (AV.ref 5), some (ledA w (allN w)), some (nameA n), some (nameA o), some srtN, none, none, none] ∧ Fs rest [] M) ?_ ?_
  · simp! []
    first | exact ⟨by simp, rfl, hM⟩ | exact ⟨by simp, hM⟩ | exact ⟨rfl, hM⟩ | exact hM
  rintro _ M ⟨rfl, hM⟩
  refine wp_seq (fun G M => G = [some (AV.ref 5), some (ledA w (allN w)), some (nameA n), some (nameA o), some srtN, some (.ref (rest.length + 1)), none, none] ∧ Fs (rest ++ [.lst (List.replicate 1 (noA n))]) [] M) ?_ ?_
  · simp! []
    refine d_n1 hM hw hn fun M1 h1 => ?_
    rw [h1.len]
    first | exact ⟨by simp, rfl, h1.push _⟩ | exact ⟨by simp, by simp, h1.push _⟩
  rintro _ M ⟨rfl, hM⟩
  have app : ∀ (k : Nat) (M : AH), k ≤ 5 → Fs (rest ++ [.lst (List.replicate k (noA n))]) [] M → ∀ {Q : AV → AH → Prop} {E : Str → List (Str × AV) → AH → Prop}, (∀ M', Fs (rest ++ [.lst (List.replicate (k + 1) (noA n))]) [] M' → Q .non M') → wpR (gAppend (.ref (rest.length + 1)) [noA n] M) Q E := fun k M hk hF Q E hq => by
    refine f_append (i := rest.length) hF (g0 _) (by rw [List.length_replicate]; omega) fun M' h' => hq M' ?_
    rw [gs, ← List.replicate_succ'] at h'
    exact h'
  have tyl : ∀ (k : Nat) (M : AH), Fs (rest ++ [.lst (List.replicate k (noA n))]) [] M → tyL M (.ref (rest.length + 1)) = true := fun k M hF => f_tyL (i := rest.length) hF (g0 _)
  refine wp_seq (fun G M => G = [some (AV.ref 5), some (ledA w (allN w)), some (nameA n), some (nameA o), some srtN, some (.ref (rest.length + 1)), none, none] ∧ Fs (rest ++ [.lst (List.replicate 2 (noA n))]) [] M) ?_ ?_
  · simp! []
    refine ⟨tyl 1 M hM, ?_⟩
    refine d_n2 hM hw hl hn fun M1 h1 => ?_
    exact app 1 M1 (by decide) h1 fun M2 h2 => (by first | exact ⟨rfl, h2⟩ | exact h2)
  rintro _ M ⟨rfl, hM⟩
  refine wp_seq (fun G M => G = [some (AV.ref 5), some (ledA w (allN w)), some (nameA n), some (nameA o), some srtN, some (.ref (rest.length + 1)), none, none] ∧ Fs (rest ++ [.lst (List.replicate 3 (noA n))]) [] M) ?_ ?_
  · simp! []
    refine ⟨tyl 2 M hM, ?_⟩
    refine d_n3 hM hw hl hn fun M1 h1 => ?_
    exact app 2 M1 (by decide) h1 fun M2 h2 => (by first | exact ⟨rfl, h2⟩ | exact h2)
  rintro _ M ⟨rfl, hM⟩
  have r3 : ∀ (k : Nat) (M : AH), k ≤ 100 → gRep (.lst [noA n]) (.int k) M = .ok (.lst (List.replicate k (noA n))) M := fun k M hk => v_rep1 (noA n) hk
  have r3' := fun M => r3 3 M (by decide)
  have r2' := fun M => r3 2 M (by decide)
  have hno : ∀ M, Res.ok (AV.tup [srtN, nameA n]) M = .ok (noA n) M := fun _ => rfl
  refine wp_seq (fun G M => G = [some (AV.ref 5), some (ledA w (allN w)), some (nameA n), some (nameA o), some srtN, some (.ref (rest.length + 1)), some (.lst (List.replicate 3 (noA n))), none] ∧ Fs (rest ++ [.lst (List.replicate 3 (noA n))]) [] M) ?_ ?_
  · simp! []
    have := r3' M
    simp only [noA] at this
    rw [show ((3 : Nat) : Int) = 3 from rfl] at this
    simp! [this]
    first | exact ⟨by simp, by simp, rfl, hM⟩ | exact ⟨by simp, by simp, hM⟩ | exact ⟨by simp, rfl, hM⟩ | exact ⟨rfl, hM⟩
  rintro _ M ⟨rfl, hM⟩
  refine wp_seq (fun G M => ∃ (k : Nat) (g7 : Option AV), k ≤ 5 ∧ G = [some (AV.ref 5), some (ledA w (allN w)), some (nameA n), some (nameA o), some srtN, some (.ref (rest.length + 1)), some (.lst (List.replicate k (noA n))), g7] ∧ Fs (rest ++ [.lst (List.replicate k (noA n))]) [] M) ?_ ?_
  · have ne : ∀ M, gNe (ledA w (allN w)) (.tup []) M = .ok (.bl (!((allN w).map fun n => recA (recOf w n)).isEmpty)) M := fun M => v_neT0 hpl
    simp! [ne]
    by_cases he : allN w = []
    · rw [if_neg (by rw [he]; simp)]
      exact ⟨by simp, 3, none, by decide, rfl, hM⟩
    · have hpos : 0 < (allN w).length := List.length_pos_iff.mpr he
      rw [if_pos (by simpa using he)]
      refine ⟨by simp, w_lastT (by simpa using hpos) fun a ha => ?_⟩
      obtain ⟨m, hm, rfl⟩ := List.mem_map.mp ha
      rw [w_rec0, recOf_nm]
      refine ⟨tyl 3 M hM, ?_⟩
      refine d_n4 hM hw hl hn hm fun M1 h1 => ?_
      refine app 3 M1 (by decide) h1 fun M2 h2 => ?_
      refine ⟨tyl 4 M2 h2, ?_⟩
      refine d_n3 h2 hw hl hn fun M3 h3 => ?_
      refine app 4 M3 (by decide) h3 fun M4 h4 => ?_
      refine ⟨by simp, by simp, ?_⟩
      have := r2' M4
      simp only [noA] at this
      rw [show ((2 : Nat) : Int) = 2 from rfl] at this
      rw [this, wpR_ok]
      simp! []
      refine ⟨by simp, 5, some (nameA m), by decide, rfl, h4⟩
  rintro _ M ⟨k, g7, hk, rfl, hM⟩
  have hr1 := f_reprL (i := rest.length) hM (g0 _) (hrl k hk) (by decide) (by decide)
  have hr2 := v_repr (M := M) (hrl k hk) (by decide) (by decide)
  simp! [hr1, hr2]
  first | exact ⟨_, hM, .inl ⟨rfl, q⟩⟩ | exact ⟨_, hM, .inl ⟨by simp [plain], by simpa using q⟩⟩
end
end K16

namespace K16
open PySem hiding Env plain
open L2 Mx Px StrLaws PySem.W PyProof.Rows
def pdA : AV := .tup [.str "put", .int 0, .str "ab"]
def rc (n : Nm) (h : Str) (b : List Nm) : Rc := ⟨n, h, b, pdA, b⟩
theorem nle_refl (a : Nm) : (!nlt a a) = true := by
  have := nle_total a a
  simpa using this
theorem nlt_of {a b : Nm} (h : (!nlt b a) = true) (hne : a ≠ b) : nlt a b = true := by
  cases e : nlt a b with
  | true => rfl
  | false => exact absurd (nle_anti h (by rw [e]; rfl)) hne
def Put (r : Rc) : Prop := r.deed = pdA ∧ r.base.length ≤ 4 ∧ r.hand.length ≤ 20 ∧ r.nm.2.length ≤ 20
theorem nm_inj {us : List Rc} (hnd : (nms us).Nodup) {a b : Rc} (ha : a ∈ us) (hb : b ∈ us) (e : a.nm = b.nm) : a = b := by
  obtain ⟨i, hi, ei⟩ := List.mem_iff_getElem.mp ha
  obtain ⟨j, hj, ej⟩ := List.mem_iff_getElem.mp hb
  have h1 : (nms us)[i]? = (nms us)[j]? := by
    show (us.map Rc.nm)[i]? = (us.map Rc.nm)[j]?
    rw [List.getElem?_map, List.getElem?_map, List.getElem?_eq_getElem hi, List.getElem?_eq_getElem hj, ei, ej]
    show some a.nm = some b.nm
    rw [e]
  have h2 := (List.getElem?_inj (by rw [List.length_map]; exact hi) hnd).mp h1
  subst h2
  rw [← ei, ← ej]
noncomputable def sortR (us : List Rc) : List Rc := us.mergeSort fun a b => !nlt b.nm a.nm
theorem sortR_perm (us : List Rc) : (sortR us).Perm us := List.mergeSort_perm us _
theorem rec_lt {r r' : Rc} (hne : r.nm ≠ r'.nm) : dataLt (toD (recA r)) (toD (recA r')) = nlt r.nm r'.nm := by
  have h1 : alike (toD (nameA r.nm)) (toD (nameA r'.nm)) = true := by
    show alike (.tuple [.int _, .str _]) (.tuple [.int _, .str _]) = true
    simp [alike, alikeAll]
  show dataLt (.tuple (toD (nameA r.nm) :: _)) (.tuple (toD (nameA r'.nm) :: _)) = _
  rw [dataLt_tuple, dataLt_cons h1]
  have h2 : PyData.eqv (toD (nameA r.nm)) (toD (nameA r'.nm)) = false := by
    have := aeq_name r.nm r'.nm
    rw [decide_eq_false hne] at this
    exact this
  rw [h2, if_neg Bool.false_ne_true, nlt_data]
theorem sortA_recs {us : List Rc} (hnd : (nms us).Nodup) : sortA (us.map recA) = (sortR us).map recA := by
  unfold sortA sortR
  refine (List.map_mergeSort (f := recA) (r := fun a b => !nlt b.nm a.nm) (s := dataLe false toD) fun a ha b hb => ?_).symm
  show (!nlt b.nm a.nm) = (!dataLt (toD (recA b)) (toD (recA a)))
  by_cases e : b.nm = a.nm
  · have : b = a := nm_inj hnd hb ha e
    subst this
    have h1 : dataLt (toD (recA b)) (toD (recA b)) = false := by
      show dataLt (.tuple _) (.tuple _) = false
      rw [dataLt_tuple]
      exact lex_irrefl _
    rw [h1]
    have h2 := nle_refl b.nm
    rw [h2]
    rfl
  · rw [rec_lt e]
theorem plain_recP {r : Rc} (h : r.deed = pdA) : plain 59 (recA r) = true := by
  have hb : (r.base.map nameA).all (plain 57) = true := by
    simp only [List.all_map, List.all_eq_true]
    exact fun n _ => rfl
  unfold recA
  rw [h]
  simp only [plain, List.all_cons, List.all_nil, Bool.and_true, Bool.true_and, nameA, pdA]
  exact hb
theorem alike_names : ∀ (l m : List Nm), alikeAll (toDs (l.map nameA)) (toDs (m.map nameA)) = true
  | [], _ => by simp [toDs, alikeAll]
  | _ :: _, [] => by simp [toDs, alikeAll]
  | a :: l, b :: m => by
    simp only [List.map_cons, toDs, alikeAll, Bool.and_eq_true]
    refine ⟨?_, alike_names l m⟩
    show alike (.tuple [.int _, .str _]) (.tuple [.int _, .str _]) = true
    simp [alike, alikeAll]
theorem sortOk_recs {us : List Rc} (h : ∀ r ∈ us, r.deed = pdA) : sortOk (us.map recA) = true := by
  have h1 : (us.map recA).all (plain 60) = true := by
    simp only [List.all_map, List.all_eq_true]
    exact fun r hr => plain_mono 59 60 _ (by decide) (plain_recP (h r hr))
  have h2 : likeA (us.map recA) = true := by
    simp only [likeA, List.all_map, List.all_eq_true, Function.comp]
    intro a ha b hb
    show alike (.tuple [.tuple [.int a.nm.1, .str a.nm.2], .str a.hand, .tuple (toDs (a.base.map nameA)), toD a.deed]) (.tuple [.tuple [.int b.nm.1, .str b.nm.2], .str b.hand, .tuple (toDs (b.base.map nameA)), toD b.deed]) = true
    rw [h a ha, h b hb]
    have hd : alike (toD pdA) (toD pdA) = true := by
      show alike (.tuple [.str _, .int _, .str _]) (.tuple [.str _, .int _, .str _]) = true
      simp [alike, alikeAll]
    simp only [alike, alikeAll, alike_names, hd, Bool.and_self, Bool.and_true]
  have h3 : (us.map recA).all tup1 = true := by
    simp only [List.all_map, List.all_eq_true]
    exact fun n _ => rfl
  simp [sortOk, h1, h2, h3]
theorem v_sortR {us : List Rc} {M : AH} (hnd : (nms us).Nodup) (h : ∀ r ∈ us, r.deed = pdA) : gSorted [.lst (us.map recA)] M = .ok (.lst ((sortR us).map recA)) M := by
  simp only [gSorted, lstR, sortOk_recs h, if_true, sortA_recs hnd]
theorem nlt_asymm {a b : Nm} (h : nlt a b = true) : nlt b a = false := by
  have := nle_total a b
  rw [h, Bool.not_true, Bool.or_false] at this
  cases e : nlt b a with
  | false => rfl
  | true => rw [e] at this; cases this
theorem nlt_irr (a : Nm) : nlt a a = false := by
  have := nle_refl a
  cases e : nlt a a with
  | false => rfl
  | true => rw [e] at this; cases this
theorem pws_setN (L : List Nm) : (setN L).Pairwise fun a b => nlt a b = true := by
  have h1 := pw_sortN (dedN L)
  have h2 := List.nodup_iff_pairwise_ne.mp (nd_setN L)
  exact (h1.and h2).imp fun {a b} h => nlt_of h.1 h.2
noncomputable def badW (u v : List Rc) (N : List Nm) (m : Nm) : Option Str := if unlikeAt u v m = true then some "unlike" else if partAt u v (N.filter fun x => nlt x m) m = true then some "branch" else none
theorem joinGo_is {u v : List Rc} {n : Nm} {s : Str} {N : List Nm} (hs : N.Pairwise fun a b => nlt a b = true) (hb : badW u v N n = some s) (hg : ∀ m ∈ N, nlt m n = true → badW u v N m = none) : ∀ (R D : List Nm), N = D ++ R → n ∈ R → joinGo u v D R = some (n, s)
  | [], D, _, hn => by cases hn
  | h :: R, D, e, hn => by
    have hf : N.filter (fun x => nlt x h) = D := by
      rw [e] at hs ⊢
      obtain ⟨_, p2, p3⟩ := List.pairwise_append.mp hs
      obtain ⟨p4, _⟩ := List.pairwise_cons.mp p2
      rw [List.filter_append, List.filter_eq_self.mpr fun x hx => p3 x hx h (List.mem_cons_self ..)]
      have : (h :: R).filter (fun x => nlt x h) = [] := List.filter_eq_nil_iff.mpr fun x hx => by
        rcases List.mem_cons.mp hx with rfl | z
        · rw [nlt_irr]
          exact Bool.false_ne_true
        · rw [nlt_asymm (p4 x z)]
          exact Bool.false_ne_true
      rw [this, List.append_nil]
    have go : joinGo u v D (h :: R) = match badW u v N h with
        | some t => some (h, t)
        | none => joinGo u v (D ++ [h]) R := by
      unfold badW
      rw [hf]
      show (if unlikeAt u v h = true then some (h, ("unlike" : Str)) else if partAt u v D h = true then some (h, ("branch" : Str)) else joinGo u v (D ++ [h]) R) = _
      by_cases c1 : unlikeAt u v h = true
      · rw [if_pos c1, if_pos c1]
      · rw [if_neg c1, if_neg c1]
        by_cases c2 : partAt u v D h = true
        · rw [if_pos c2, if_pos c2]
        · rw [if_neg c2, if_neg c2]
    rw [go]
    rcases List.mem_cons.mp hn with rfl | z
    · rw [hb]
    · have hlt : nlt h n = true := by
        rw [e] at hs
        exact (List.pairwise_cons.mp (List.pairwise_append.mp hs).2.1).1 n z
      rw [hg h (by rw [e]; simp) hlt]
      exact joinGo_is hs hb hg R (D ++ [h]) (by rw [e, List.append_assoc]; rfl) z
theorem joinE_is {u v : List Rc} {n : Nm} {s : Str} (hn : n ∈ nms u ∨ n ∈ nms v) (hb : badW u v (joinN u v) n = some s) (hg : ∀ m, (m ∈ nms u ∨ m ∈ nms v) → nlt m n = true → badW u v (joinN u v) m = none) : joinE u v = some (n, s) := by
  refine joinGo_is (pws_setN _) hb (fun m hm => hg m ?_) (joinN u v) [] rfl ?_
  · exact List.mem_append.mp (mem_setN.mp hm)
  · exact mem_setN.mpr (List.mem_append.mpr hn)
theorem at_perm {u u' : List Rc} (h : u.Perm u') (hnd : (nms u).Nodup) (n : Nm) : at_ u' n = at_ u n := by
  have hnd' : (nms u').Nodup := (h.map Rc.nm).nodup_iff.mp hnd
  by_cases hn : n ∈ nms u
  · obtain ⟨r, e, hr, hrn⟩ := at_in hn
    obtain ⟨r', e', hr', hrn'⟩ := at_in ((h.map Rc.nm).mem_iff.mp hn)
    rw [e, e']
    have : r = r' := nm_inj hnd hr (h.mem_iff.mpr hr') (hrn.trans hrn'.symm)
    rw [this]
  · rw [at_no hn, at_no (fun z => hn ((h.map Rc.nm).mem_iff.mpr z))]
theorem joinN_perm {u u' v v' : List Rc} (h : u.Perm u') (h2 : v.Perm v') : joinN u' v' = joinN u v := by
  unfold joinN setN
  exact sortN_ext (nd_dedN _) (nd_dedN _) fun n => by
    rw [mem_dedN, mem_dedN, List.mem_append, List.mem_append, (h.map Rc.nm).mem_iff, (h2.map Rc.nm).mem_iff]
theorem joinGo_congr {u u' v v' : List Rc} (h : u.Perm u') (h2 : v.Perm v') (hu : (nms u).Nodup) (hv : (nms v).Nodup) : ∀ (R D : List Nm), joinGo u' v' D R = joinGo u v D R
  | [], D => rfl
  | n :: R, D => by
    have e1 : unlikeAt u' v' n = unlikeAt u v n := by
      unfold unlikeAt
      rw [at_perm h hu, at_perm h2 hv]
    have e2 : partAt u' v' D n = partAt u v D n := by
      unfold partAt
      have i1 : ∀ m, (m ∈ nms u') = (m ∈ nms u) := fun m => propext (h.map Rc.nm).mem_iff.symm
      have i2 : ∀ m, (m ∈ nms v') = (m ∈ nms v) := fun m => propext (h2.map Rc.nm).mem_iff.symm
      simp only [i1, i2]
    show (if unlikeAt u' v' n = true then some (n, ("unlike" : Str)) else if partAt u' v' D n = true then some (n, ("branch" : Str)) else joinGo u' v' (D ++ [n]) R) = (if unlikeAt u v n = true then some (n, ("unlike" : Str)) else if partAt u v D n = true then some (n, ("branch" : Str)) else joinGo u v (D ++ [n]) R)
    rw [e1, e2, joinGo_congr h h2 hu hv R (D ++ [n])]
theorem joinE_perm {u u' v v' : List Rc} (h : u.Perm u') (h2 : v.Perm v') (hu : (nms u).Nodup) (hv : (nms v).Nodup) : joinE u' v' = joinE u v := by
  unfold joinE
  rw [joinN_perm h h2, joinGo_congr h h2 hu hv]
end K16

namespace K16
open PySem hiding Env plain
open L2 Mx Px StrLaws PySem.W PyProof.Rows
section
variable {b c d x : Str} {u v : List Rc} {N D : List Nm}
theorem last_none (h : ∀ y ∈ D, y.2 ≠ x) : lastIn D x = none := by
  unfold lastIn
  refine List.find?_eq_none.mpr fun y hy => ?_
  have := h y (List.mem_reverse.mp hy)
  simpa using this
theorem last_is {m : Nm} (hm : m ∈ D) (hx : m.2 = x) (h : ∀ y ∈ D, y.2 = x → y = m) : lastIn D x = some m := by
  unfold lastIn
  cases e : D.reverse.find? fun n => decide (n.2 = x) with
  | none =>
    have := List.find?_eq_none.mp e m (List.mem_reverse.mpr hm)
    simp [hx] at this
  | some y =>
    have h1 : y.2 = x := by simpa using List.find?_some e
    rw [h y (List.mem_reverse.mp (List.mem_of_find?_eq_some e)) h1]
theorem lt_one {y : Nm} (h1 : 1 ≤ y.1) (h : nlt y (1, x) = true) : y.2 ≠ x := fun z => by
  unfold nlt at h
  by_cases e : y.1 = 1
  · rw [if_pos e, if_pos z] at h
    cases h
  · rw [if_neg e] at h
    have := of_decide_eq_true h
    omega
theorem lt_two {y : Nm} (h1 : 1 ≤ y.1) (h : nlt y (2, x) = true) (z : y.2 = x) : y = (1, x) := by
  unfold nlt at h
  by_cases e : y.1 = 2
  · rw [if_pos e, if_pos z] at h
    cases h
  · rw [if_neg e] at h
    have := of_decide_eq_true h
    have e1 : y.1 = 1 := by
      have h3 : y.1 < 2 := this
      omega
    obtain ⟨i, s⟩ := y
    simp only at e1 z
    rw [e1, z]
theorem good1 (hall : ∀ y ∈ N, 1 ≤ y.1) (hun : unlikeAt u v (1, x) = false) : badW u v N (1, x) = none := by
  unfold badW
  have hp : partAt u v (N.filter fun y => nlt y (1, x)) (1, x) = false := by
    unfold partAt
    rw [last_none fun y hy => lt_one (hall y (List.mem_filter.mp hy).1) (List.mem_filter.mp hy).2]
  rw [hun, hp]
  rfl
theorem last2 (hall : ∀ y ∈ N, 1 ≤ y.1) (h : (1, x) ∈ N) : lastIn (N.filter fun y => nlt y (2, x)) x = some (1, x) :=
  last_is (List.mem_filter.mpr ⟨h, by simp [nlt]⟩) rfl fun y hy z => lt_two (hall y (List.mem_filter.mp hy).1) (List.mem_filter.mp hy).2 z
theorem last2n (hall : ∀ y ∈ N, 1 ≤ y.1) (h : (1, x) ∉ N) : lastIn (N.filter fun y => nlt y (2, x)) x = none :=
  last_none fun y hy z => h (by
    rw [← lt_two (hall y (List.mem_filter.mp hy).1) (List.mem_filter.mp hy).2 z]
    exact (List.mem_filter.mp hy).1)
theorem bad_un {n : Nm} (h : unlikeAt u v n = true) : badW u v N n = some ("unlike" : Str) := by
  unfold badW
  rw [if_pos h]
theorem bad_br (hall : ∀ y ∈ N, 1 ≤ y.1) (h : (1, x) ∈ N) (hun : unlikeAt u v (2, x) = false) (hp : (if (2, x) ∈ nms u then decide ((1, x) ∉ nms u) else decide ((1, x) ∉ nms v)) = true) : badW u v N (2, x) = some ("branch" : Str) := by
  unfold badW
  have hp2 : partAt u v (N.filter fun y => nlt y (2, x)) (2, x) = true := by
    unfold partAt
    rw [last2 hall h]
    exact hp
  rw [hun, hp2]
  rfl
theorem good2 (hall : ∀ y ∈ N, 1 ≤ y.1) (h : (1, x) ∉ N) (hun : unlikeAt u v (2, x) = false) : badW u v N (2, x) = none := by
  unfold badW
  have hp2 : partAt u v (N.filter fun y => nlt y (2, x)) (2, x) = false := by
    unfold partAt
    rw [last2n hall h]
  rw [hun, hp2]
  rfl
end
def LF (b c d : Str) : List Rc := [rc (1, b) b [], rc (2, b) b [(1, b)], rc (1, c) c []]
def LF1 (b c d : Str) : List Rc := [rc (1, b) b []]
def LS (b c d : Str) : List Rc := [rc (1, d) d [], rc (2, b) b [(1, d)]]
def LT (b c d : Str) : List Rc := [rc (1, c) c [], rc (2, c) c [(1, c)]]
def LU (b c d : Str) : List Rc := [rc (1, d) d [], rc (2, b) b [(1, d)], rc (1, c) c [], rc (2, c) d [(1, c)]]
def LFT (b c d : Str) : List Rc := [rc (1, b) b [], rc (1, c) c [], rc (2, c) c [(1, c)]]
theorem rc_nm (n : Nm) (h : Str) (b : List Nm) : (rc n h b).nm = n := rfl
theorem aeq_rc (n : Nm) (h : Str) (b : List Nm) : aeq (recA (rc n h b)) (recA (rc n h b)) = true := aeq_refl (plain_mono 59 60 _ (by decide) (plain_recP rfl))
theorem aeq_rc_hand {n : Nm} {h h' : Str} {b b' : List Nm} (z : h ≠ h') : aeq (recA (rc n h b)) (recA (rc n h' b')) = false := by
  simp [aeq, recA, rc, toD, toDs, PyData.eqv, PyData.eqvAll, z]
theorem aeq_rc_base {n m m' : Nm} {h h' : Str} (z : m.2 ≠ m'.2) : aeq (recA (rc n h [m])) (recA (rc n h' [m'])) = false := by
  simp [aeq, recA, rc, toD, toDs, PyData.eqv, PyData.eqvAll, nameA, z]
theorem hallN {u v : List Rc} (hu : u.all fun r => decide (1 ≤ r.nm.1)) (hv : v.all fun r => decide (1 ≤ r.nm.1)) : ∀ y ∈ joinN u v, 1 ≤ y.1 := fun y hy => by
  rcases List.mem_append.mp (mem_setN.mp hy) with z | z
  · obtain ⟨r, hr, rfl⟩ := List.mem_map.mp z
    exact of_decide_eq_true (List.all_eq_true.mp hu r hr)
  · obtain ⟨r, hr, rfl⟩ := List.mem_map.mp z
    exact of_decide_eq_true (List.all_eq_true.mp hv r hr)
theorem inN {u v : List Rc} {n : Nm} : n ∈ joinN u v ↔ n ∈ nms u ∨ n ∈ nms v := mem_setN.trans List.mem_append
theorem nlt_self {x : Nm} (h : nlt x x = true) : False := by
  rw [nlt_irr] at h
  cases h
section
variable {b c d : Str} (hbc : b ≠ c) (hbd : b ≠ d) (hcd : c ≠ d)
include hbc hbd hcd
theorem j1 : joinE (LF b c d) (LS b c d) = some ((2, b), ("unlike" : Str)) ∧ joinE (LS b c d) (LF b c d) = some ((2, b), ("unlike" : Str)) := by
  have hcb := hbc.symm
  have hdb := hbd.symm
  have hdc := hcd.symm
  refine ⟨joinE_is (by simp [LF, rc_nm]) (bad_un ?_) fun m hm hlt => ?_, joinE_is (by simp [LF, LS, rc_nm]) (bad_un ?_) fun m hm hlt => ?_⟩
  · simp [unlikeAt, at_, LF, LS, rc_nm, aeq_rc_base, *]
  · simp only [nms, LF, LS, rc_nm, List.map_cons, List.map_nil, List.mem_cons, List.not_mem_nil, or_false] at hm
    rcases hm with (rfl | rfl | rfl) | (rfl | rfl) <;> first
      | exact (nlt_self hlt).elim
      | exact good1 (hallN (by rfl) (by rfl)) (by simp [unlikeAt, at_, LF, LS, rc_nm, aeq_rc, *])
  · simp [unlikeAt, at_, LF, LS, rc_nm, aeq_rc_base, *]
  · simp only [nms, LF, LS, rc_nm, List.map_cons, List.map_nil, List.mem_cons, List.not_mem_nil, or_false] at hm
    rcases hm with (rfl | rfl) | (rfl | rfl | rfl) <;> first
      | exact (nlt_self hlt).elim
      | exact good1 (hallN (by rfl) (by rfl)) (by simp [unlikeAt, at_, LF, LS, rc_nm, aeq_rc, *])
theorem j2 : joinE (LF1 b c d) (LS b c d) = some ((2, b), ("branch" : Str)) ∧ joinE (LS b c d) (LF1 b c d) = some ((2, b), ("branch" : Str)) := by
  have hcb := hbc.symm
  have hdb := hbd.symm
  have hdc := hcd.symm
  refine ⟨joinE_is (by simp [LF1, LS, rc_nm]) (bad_br (hallN (by rfl) (by rfl)) ?_ ?_ ?_) fun m hm hlt => ?_, joinE_is (by simp [LF1, LS, rc_nm]) (bad_br (hallN (by rfl) (by rfl)) ?_ ?_ ?_) fun m hm hlt => ?_⟩
  · exact inN.mpr (by simp [LF1, LS, rc_nm])
  · simp [unlikeAt, at_, LF1, LS, rc_nm, *]
  · simp [LF1, LS, rc_nm, *]
  · simp only [nms, LF1, LS, rc_nm, List.map_cons, List.map_nil, List.mem_cons, List.not_mem_nil, or_false] at hm
    rcases hm with rfl | (rfl | rfl) <;> first
      | exact (nlt_self hlt).elim
      | exact good1 (hallN (by rfl) (by rfl)) (by simp [unlikeAt, at_, LF1, LS, rc_nm, aeq_rc, *])
  · exact inN.mpr (by simp [LF1, LS, rc_nm])
  · simp [unlikeAt, at_, LF1, LS, rc_nm, *]
  · simp [LF1, LS, rc_nm, *]
  · simp only [nms, LF1, LS, rc_nm, List.map_cons, List.map_nil, List.mem_cons, List.not_mem_nil, or_false] at hm
    rcases hm with (rfl | rfl) | rfl <;> first
      | exact (nlt_self hlt).elim
      | exact good1 (hallN (by rfl) (by rfl)) (by simp [unlikeAt, at_, LF1, LS, rc_nm, aeq_rc, *])
theorem j3 : joinE (LT b c d) (LU b c d) = some ((2, c), ("unlike" : Str)) ∧ joinE (LU b c d) (LT b c d) = some ((2, c), ("unlike" : Str)) := by
  have hcb := hbc.symm
  have hdb := hbd.symm
  have hdc := hcd.symm
  refine ⟨joinE_is (by simp [LT, LU, rc_nm]) (bad_un ?_) fun m hm hlt => ?_, joinE_is (by simp [LT, LU, rc_nm]) (bad_un ?_) fun m hm hlt => ?_⟩
  · simp [unlikeAt, at_, LT, LU, rc_nm, aeq_rc_hand, *]
  · simp only [nms, LT, LU, rc_nm, List.map_cons, List.map_nil, List.mem_cons, List.not_mem_nil, or_false] at hm
    rcases hm with (rfl | rfl) | (rfl | rfl | rfl | rfl) <;> first
      | exact (nlt_self hlt).elim
      | exact good1 (hallN (by rfl) (by rfl)) (by simp [unlikeAt, at_, LT, LU, rc_nm, aeq_rc, *])
      | exact good2 (hallN (by rfl) (by rfl)) (fun z => by have z := inN.mp z; simp [LT, LU, rc_nm, *] at z) (by simp [unlikeAt, at_, LT, LU, rc_nm, aeq_rc, *])
  · simp [unlikeAt, at_, LT, LU, rc_nm, aeq_rc_hand, *]
  · simp only [nms, LT, LU, rc_nm, List.map_cons, List.map_nil, List.mem_cons, List.not_mem_nil, or_false] at hm
    rcases hm with (rfl | rfl | rfl | rfl) | (rfl | rfl) <;> first
      | exact (nlt_self hlt).elim
      | exact good1 (hallN (by rfl) (by rfl)) (by simp [unlikeAt, at_, LT, LU, rc_nm, aeq_rc, *])
      | exact good2 (hallN (by rfl) (by rfl)) (fun z => by have z := inN.mp z; simp [LT, LU, rc_nm, *] at z) (by simp [unlikeAt, at_, LT, LU, rc_nm, aeq_rc, *])
theorem j4a (h : nlt (2, b) (2, c) = true) : joinE (LFT b c d) (LU b c d) = some ((2, b), ("branch" : Str)) ∧ joinE (LU b c d) (LFT b c d) = some ((2, b), ("branch" : Str)) := by
  have hcb := hbc.symm
  have hdb := hbd.symm
  have hdc := hcd.symm
  refine ⟨joinE_is (by simp [LFT, LU, rc_nm]) (bad_br (hallN (by rfl) (by rfl)) ?_ ?_ ?_) fun m hm hlt => ?_, joinE_is (by simp [LFT, LU, rc_nm]) (bad_br (hallN (by rfl) (by rfl)) ?_ ?_ ?_) fun m hm hlt => ?_⟩
  · exact inN.mpr (by simp [LFT, LU, rc_nm])
  · simp [unlikeAt, at_, LFT, LU, rc_nm, *]
  · simp [LFT, LU, rc_nm, *]
  · simp only [nms, LFT, LU, rc_nm, List.map_cons, List.map_nil, List.mem_cons, List.not_mem_nil, or_false] at hm
    rcases hm with (rfl | rfl | rfl) | (rfl | rfl | rfl | rfl) <;> first
      | exact (nlt_self hlt).elim
      | (rw [nlt_asymm h] at hlt; cases hlt; done)
      | exact good1 (hallN (by rfl) (by rfl)) (by simp [unlikeAt, at_, LFT, LU, rc_nm, aeq_rc, *])
  · exact inN.mpr (by simp [LFT, LU, rc_nm])
  · simp [unlikeAt, at_, LFT, LU, rc_nm, *]
  · simp [LFT, LU, rc_nm, *]
  · simp only [nms, LFT, LU, rc_nm, List.map_cons, List.map_nil, List.mem_cons, List.not_mem_nil, or_false] at hm
    rcases hm with (rfl | rfl | rfl | rfl) | (rfl | rfl | rfl) <;> first
      | exact (nlt_self hlt).elim
      | (rw [nlt_asymm h] at hlt; cases hlt; done)
      | exact good1 (hallN (by rfl) (by rfl)) (by simp [unlikeAt, at_, LFT, LU, rc_nm, aeq_rc, *])
theorem j4b (h : nlt (2, b) (2, c) = false) : joinE (LFT b c d) (LU b c d) = some ((2, c), ("unlike" : Str)) ∧ joinE (LU b c d) (LFT b c d) = some ((2, c), ("unlike" : Str)) := by
  have hcb := hbc.symm
  have hdb := hbd.symm
  have hdc := hcd.symm
  refine ⟨joinE_is (by simp [LFT, LU, rc_nm]) (bad_un ?_) fun m hm hlt => ?_, joinE_is (by simp [LFT, LU, rc_nm]) (bad_un ?_) fun m hm hlt => ?_⟩
  · simp [unlikeAt, at_, LFT, LU, rc_nm, aeq_rc_hand, *]
  · simp only [nms, LFT, LU, rc_nm, List.map_cons, List.map_nil, List.mem_cons, List.not_mem_nil, or_false] at hm
    rcases hm with (rfl | rfl | rfl) | (rfl | rfl | rfl | rfl) <;> first
      | exact (nlt_self hlt).elim
      | (rw [h] at hlt; cases hlt; done)
      | exact good1 (hallN (by rfl) (by rfl)) (by simp [unlikeAt, at_, LFT, LU, rc_nm, aeq_rc, *])
  · simp [unlikeAt, at_, LFT, LU, rc_nm, aeq_rc_hand, *]
  · simp only [nms, LFT, LU, rc_nm, List.map_cons, List.map_nil, List.mem_cons, List.not_mem_nil, or_false] at hm
    rcases hm with (rfl | rfl | rfl | rfl) | (rfl | rfl | rfl) <;> first
      | exact (nlt_self hlt).elim
      | (rw [h] at hlt; cases hlt; done)
      | exact good1 (hallN (by rfl) (by rfl)) (by simp [unlikeAt, at_, LFT, LU, rc_nm, aeq_rc, *])
end
structure Cs where
  u : List Rc
  v : List Rc
  n : Nm
  s : Str
theorem okB {x : Str} (t : Tx AnyC 20 x) : NmOk (2, x) := ⟨by show (1 : Int) ≤ 2; decide, by show (2 : Int) ≤ 100; decide, t⟩
theorem txB : Tx AnyC 10 ("branch" : Str) := ⟨by decide +kernel, by decide +kernel⟩
theorem txU : Tx AnyC 10 ("unlike" : Str) := ⟨by decide +kernel, by decide +kernel⟩
theorem q_minD {b c : Str} {M : AH} (hbc : b ≠ c) : gMinD [.tup [.tup [.int 2, .str b], .str "branch"], .tup [.tup [.int 2, .str c], .str "unlike"]] M = .ok (if nlt (2, b) (2, c) = true then .tup [nameA (2, b), .str "branch"] else .tup [nameA (2, c), .str "unlike"]) M := by
  have al : ∀ x y s t : Str, alike (toD (.tup [.tup [.int 2, .str x], .str s])) (toD (.tup [.tup [.int 2, .str y], .str t])) = true := fun x y s t => by
    show alike (.tuple [.tuple [.int 2, .str x], .str s]) (.tuple [.tuple [.int 2, .str y], .str t]) = true
    simp [alike, alikeAll]
  have lt : dataLt (toD (.tup [.tup [.int 2, .str c], .str "unlike"])) (toD (.tup [.tup [.int 2, .str b], .str "branch"])) = nlt (2, c) (2, b) := by
    have h1 : alike (toD (nameA (2, c))) (toD (nameA (2, b))) = true := by
      show alike (.tuple [.int _, .str _]) (.tuple [.int _, .str _]) = true
      simp [alike, alikeAll]
    show dataLt (.tuple (toD (nameA (2, c)) :: _)) (.tuple (toD (nameA (2, b)) :: _)) = _
    rw [dataLt_tuple, dataLt_cons h1]
    have h2 : PyData.eqv (toD (nameA (2, c))) (toD (nameA (2, b))) = false := by
      have := aeq_name (2, c) (2, b)
      rw [decide_eq_false (fun z => hbc (Prod.mk.inj z).2.symm)] at this
      exact this
    rw [h2, if_neg Bool.false_ne_true, nlt_data]
  simp only [gMinD]
  rw [if_pos ⟨rfl, rfl, al .., al .., al .., al .., rfl, rfl⟩, lt]
  by_cases h : nlt (2, b) (2, c) = true
  · rw [if_pos h, if_neg (by rw [nlt_asymm h]; exact Bool.false_ne_true)]
    rfl
  · have h : nlt (2, b) (2, c) = false := by simpa using h
    have h3 : nlt (2, c) (2, b) = true := nlt_of (by rw [h]; rfl) fun z => hbc (Prod.mk.inj z).2.symm
    rw [h3, h]
    rfl
theorem fourth {b c d : Str} (hbc : b ≠ c) (hbd : b ≠ d) (hcd : c ≠ d) (tb : Tx AnyC 20 b) (tc : Tx AnyC 20 c) : ∃ x : Cs, (joinE x.u x.v = some (x.n, x.s) ∧ joinE x.v x.u = some (x.n, x.s) ∧ NmOk x.n ∧ Tx AnyC 10 x.s) ∧ x.u = LFT b c d ∧ x.v = LU b c d ∧
    (if nlt (2, b) (2, c) = true then AV.tup [nameA (2, b), .str "branch"] else .tup [nameA (2, c), .str "unlike"]) = .tup [nameA x.n, .str x.s] := by
  by_cases h : nlt (2, b) (2, c) = true
  · exact ⟨⟨LFT b c d, LU b c d, (2, b), "branch"⟩, ⟨(j4a hbc hbd hcd h).1, (j4a hbc hbd hcd h).2, okB tb, txB⟩, rfl, rfl, if_pos h⟩
  · have h : nlt (2, b) (2, c) = false := by simpa using h
    exact ⟨⟨LFT b c d, LU b c d, (2, c), "unlike"⟩, ⟨(j4b hbc hbd hcd h).1, (j4b hbc hbd hcd h).2, okB tc, txU⟩, rfl, rfl, if_neg (by rw [h]; exact Bool.false_ne_true)⟩
end K16

namespace K16
open PySem hiding Env plain
open L2 Mx Px StrLaws
local macro_rules | `(tactic| simp! [$ls,*]) => `(tactic| try simp -implicitDefEqProofs only [w_enumT, v_enumC, v_enumT, v_seqC, v_lenC, v_listC, v_listRL, w_keys, List.map_cons, List.map_nil, List.cons_append, List.nil_append, List.replicate, List.set_cons_succ, List.set_cons_zero, wipeG, wpS_then, wpS_set, wpS_if, wpS_mret, wpS_retN, wpS_mnext, wpS_mbrk, wpS_mcnt, wpS_exp, wpS_asg, wpS_for, w_c, w_bin, w_un, w_ifE, w_andV, w_orV, w_notV, w_call, w_chain, w_meth, w_meth0, w_sl, w_noPart, w_part, w_nil, w_cons, w_bl, w_tru, w_and, w_or, w_not, w_lcV, w_lcR, w_lc, w_seq, w_rng1, w_rng2, w_var0, w_var1, w_var2, w_var3, w_var4, w_var5, w_var6, w_var7, w_var8, w_var9, w_var10, w_var11, w_var12, w_var13, w_var14, w_var15, w_var16, w_var17, w_var18, w_var19, w_var20, w_dictT, w_dictK, w_gTp, wpS_par, wpS_par3, w_zip, w_enum, w_rev, v_zipL, v_zipT, v_enumL, v_revL, v_revT, w_gsCons, w_gsNil, w_callK, wpR_ok, wpR_sized, v_nm, v_addI, v_addS, v_addT, v_addL, v_sub, v_neg, w_mul, w_div, w_mod, w_pow, v_ordI, v_eqI, v_neI, v_eqS, v_neS, v_lenS, v_lenL, v_lenF, v_lenT, v_truB, v_seqS, v_seqT, v_seqL, v_seqF, v_listT, v_listL, v_tupleL, v_tupleT, v_tupD, v_lstD, v_lstR, v_slT, v_slL, v_slF, w_slS, defD_rt, defD_nx, defD_ex, defD_bk, defD_ct, AV.bl.injEq, AV.int.injEq, Option.some.injEq, exists_eq_left', tyS, if_true, if_false, Bool.false_eq_true, true_and, and_true, $ls,*])
theorem e_joined : m_joined = m_joi := rfl
section
variable {w : List Rc} {rest tmp : List AV} {fz : List Nat} {M : AH} {P : AV → AH → Prop} {E : Str → List (Str × AV) → AH → Prop} {n o : Nm} {s : Str} {b c d : Str}
abbrev srtJ : AV := .lst [.bl false, .bl true, .bl false, .bl true, .bl false]
def jnA (n : Nm) (s : Str) : AV := .tup [srtJ, nameA n, .str s]
theorem w_tJ {r : Res AV} (h : wpR r (fun _ _ => False) (fun c fs M => c = "NoJoin" ∧ fs = [(("word" : Str), AV.str s), (("name" : Str), nameA n)] ∧ P (jnA n s) M)) : wpR (t__law_refused r) P E := by
  cases r with
  | ok a M => exact h.elim
  | exc c fs M =>
    obtain ⟨rfl, rfl, hp⟩ := h
    rw [told_join _ s (plain_name n)]
    exact hp
  | stuck => exact h.elim
structure JB (u : List Rc) : Prop where
  nd : (nms u).Nodup
  pd : ∀ r ∈ u, r.deed = pdA
  len : u.length ≤ 10
theorem JB.book {u : List Rc} (h : JB u) : Book (sortR u) := ⟨((sortR_perm u).map Rc.nm).nodup_iff.mpr h.nd, fun r hr => plain_recP (h.pd r ((sortR_perm u).mem_iff.mp hr)), by rw [(sortR_perm u).length_eq]; have := h.len; omega⟩
theorem d_jn {u v : List Rc} (hM : Fs rest [] M) (hu : JB u) (hv : JB v) (he : joinE u v = some (n, s)) (q : ∀ M', Fs rest [] M' → P (jnA n s) M') : wpR (t__law_refused (m_joi [rcsA (sortR u), rcsA (sortR v)] M)) P E := by
  have he' : joinE (sortR u) (sortR v) = some (n, s) := by
    rw [joinE_perm (sortR_perm u).symm (sortR_perm v).symm hu.nd hv.nd]
    exact he
  refine w_tJ (n := n) (s := s) (d_joi (E := fun c fs M => c = "NoJoin" ∧ fs = [(("word" : Str), AV.str s), (("name" : Str), nameA n)] ∧ P (jnA n s) M) hM hu.book hv.book (fun h => by rw [he'] at h; cases h) fun n' s' e' M' h' => ?_)
  rw [he'] at e'
  cases e'
  exact ⟨rfl, rfl, q M' h'⟩
structure CsOk (x : Cs) : Prop where
  u : JB x.u
  v : JB x.v
  e : joinE x.u x.v = some (x.n, x.s) ∧ joinE x.v x.u = some (x.n, x.s)
  n : NmOk x.n
  s : Tx AnyC 10 x.s
def csA (x : Cs) : AV := .tup [.lst (x.u.map recA), .lst (x.v.map recA), .tup [nameA x.n, .str x.s]]
theorem sh_jnA (h : NmOk n) (hs : Tx AnyC 10 s) : Sh 3 2000 (jnA n s) := by
  have h1 : Sh 1 100 srtJ := ⟨by decide +kernel, by decide +kernel, by decide +kernel⟩
  refine (sh_tup (n := 500) (d := 2) (xs := [srtJ, nameA n, .str s]) fun y hy => ?_).mono (by decide) (by simp)
  simp only [List.mem_cons, List.not_mem_nil, or_false] at hy
  rcases hy with rfl | rfl | rfl
  · exact h1.mono (by decide) (by decide)
  · exact h.sh.mono (by decide) (by decide)
  · exact hs.sh.mono (by decide) (by decide)
theorem v_tupL (xs : List AV) : gTuple [.lst xs] M = .ok (.tup xs) M := byrfl rfl
theorem q_put (n : Nm) (h : Str) (b : List Nm) : m__law_put [nameA n, .str h, .tup (b.map nameA)] M = .ok (recA (rc n h b)) M := by
  refine pure_eq rfl ?_
  unfold b__law_put
  simp! []
  first | exact ⟨by simp, rfl, rfl⟩ | exact ⟨by simp, by simp, rfl⟩ | exact ⟨by simp, rfl⟩
@[simp] theorem w_gLsL {G : Env} {Q : Env → AH → Prop} {F : Str → List (Str × AV) → AH → Prop} (n : Nat) (u : TMs) (as : List AV) : wpR (gLs n u (.lst as) G M) Q F = (as.length = n ∧ wpR (u as G M) Q F) := by
  have e : seqOf M (.lst as) = some ⟨as, none⟩ := rfl
  simp only [gLs, e]
  by_cases h : as.length = n <;> simp [h]
theorem d_joinsright {wl : List AV} (hM : Fs rest [] M) (hw : cutA wl none (some 3) = [.str b, .str c, .str d]) (hbc : b ≠ c) (hbd : b ≠ d) (hcd : c ≠ d) (tb : Tx AnyC 20 b) (tc : Tx AnyC 20 c) (td : Tx AnyC 20 d) (q : ∀ M', Fs rest [] M' → P (.bl true) M') : wpR (m__law_joins_right [.lst wl] M) P E := by
  refine wp_gcL hM ?_
  refine wp_def rfl ?_
  unfold b__law_joins_right
  rw [e_joined]
  have nz : ∀ M, Res.ok (AV.tup [.int 1, .str b]) M = Res.ok (nameA (1, b)) M := fun _ => rfl
  refine wp_seq (fun G M => G = [some (.lst wl), some (.str b), some (.str c), some (.str d), none, none, none, none, none, none, none, none, none, none, none, none, none] ∧ Fs rest [] M) ?_ ?_
  · simp! [hw, w_gLsL]
    first | exact ⟨rfl, hM⟩ | exact ⟨by simp, rfl, hM⟩ | exact ⟨by simp, hM⟩
  rintro _ M ⟨rfl, hM⟩
  refine wp_seq (fun G M => G = [some (.lst wl), some (.str b), some (.str c), some (.str d), some srtJ, none, none, none, none, none, none, none, none, none, none, none, none] ∧ Fs rest [] M) ?_ ?_
  · simp! []
    first | exact ⟨rfl, hM⟩ | exact ⟨by simp, rfl, hM⟩ | exact ⟨by simp, hM⟩
  rintro _ M ⟨rfl, hM⟩
  have p1 : ∀ (k : Int) (x h : Str) M, m__law_put [.tup [.int k, .str x], .str h, .tup []] M = .ok (recA (rc (k, x) h [])) M := fun k x h M => q_put (k, x) h []
  have p2 : ∀ (k : Int) (x h : Str) (j : Int) (y : Str) M, m__law_put [.tup [.int k, .str x], .str h, .tup [.tup [.int j, .str y]]] M = .ok (recA (rc (k, x) h [(j, y)])) M := fun k x h j y M => q_put (k, x) h [(j, y)]
  refine wp_seq (fun G M => G = [some (.lst wl), some (.str b), some (.str c), some (.str d), some srtJ, some (.lst ((LF b c d).map recA)), none, none, none, none, none, none, none, none, none, none, none] ∧ Fs rest [] M) ?_ ?_
  · simp! [p1, p2]
    (repeat (first | exact ⟨rfl, hM⟩ | exact hM | refine ⟨by simp [LF, LS, LT, LU, LF1], ?_⟩ | refine ⟨rfl, ?_⟩))
  rintro _ M ⟨rfl, hM⟩
  refine wp_seq (fun G M => G = [some (.lst wl), some (.str b), some (.str c), some (.str d), some srtJ, some (.lst ((LF b c d).map recA)), some (.lst ((LS b c d).map recA)), none, none, none, none, none, none, none, none, none, none] ∧ Fs rest [] M) ?_ ?_
  · simp! [p1, p2]
    (repeat (first | exact ⟨rfl, hM⟩ | exact hM | refine ⟨by simp [LF, LS, LT, LU, LF1], ?_⟩ | refine ⟨rfl, ?_⟩))
  rintro _ M ⟨rfl, hM⟩
  refine wp_seq (fun G M => G = [some (.lst wl), some (.str b), some (.str c), some (.str d), some srtJ, some (.lst ((LF b c d).map recA)), some (.lst ((LS b c d).map recA)), some (.lst ((LT b c d).map recA)), none, none, none, none, none, none, none, none, none] ∧ Fs rest [] M) ?_ ?_
  · simp! [p1, p2]
    (repeat (first | exact ⟨rfl, hM⟩ | exact hM | refine ⟨by simp [LF, LS, LT, LU, LF1], ?_⟩ | refine ⟨rfl, ?_⟩))
  rintro _ M ⟨rfl, hM⟩
  refine wp_seq (fun G M => G = [some (.lst wl), some (.str b), some (.str c), some (.str d), some srtJ, some (.lst ((LF b c d).map recA)), some (.lst ((LS b c d).map recA)), some (.lst ((LT b c d).map recA)), some (.lst ((LU b c d).map recA)), none, none, none, none, none, none, none, none] ∧ Fs rest [] M) ?_ ?_
  · simp! [p1, p2]
    (repeat (first | exact ⟨rfl, hM⟩ | exact hM | refine ⟨by simp [LF, LS, LT, LU, LF1], ?_⟩ | refine ⟨rfl, ?_⟩))
  rintro _ M ⟨rfl, hM⟩
  have cF1 : cutA ((LF b c d).map recA) none (some 1) = (LF1 b c d).map recA := by
    have := cutA_take ((LF b c d).map recA) 1
    rw [show ((1 : Nat) : Int) = 1 from rfl] at this
    rw [this]
    rfl
  have g0 : ∀ x : AV, (rest ++ [x])[rest.length]? = some x := fun x => by simp
  have gs : ∀ x y : AV, (rest ++ [x]).set rest.length y = rest ++ [y] := fun x y => by simp
  refine wp_seq (fun G M => G = [some (.lst wl), some (.str b), some (.str c), some (.str d), some srtJ, some (.lst ((LF b c d).map recA)), some (.lst ((LS b c d).map recA)), some (.lst ((LT b c d).map recA)), some (.lst ((LU b c d).map recA)), some (.ref (rest.length + 1)), none, none, none, none, none, none, none] ∧ Fs (rest ++ [.lst (([⟨LF b c d, LS b c d, (2, b), "unlike"⟩, ⟨LF1 b c d, LS b c d, (2, b), "branch"⟩] : List Cs).map csA)]) [] M) ?_ ?_
  · simp! [cF1, hM.len]
    have := hM.push (.lst (([⟨LF b c d, LS b c d, (2, b), "unlike"⟩, ⟨LF1 b c d, LS b c d, (2, b), "branch"⟩] : List Cs).map csA))
    (repeat (first | exact ⟨rfl, this⟩ | exact this | refine ⟨by simp [LF, LS, LT, LU, LF1], ?_⟩ | refine ⟨rfl, ?_⟩))
  rintro _ M ⟨rfl, hM⟩
  refine wp_seq (fun G M => G = [some (.lst wl), some (.str b), some (.str c), some (.str d), some srtJ, some (.lst ((LF b c d).map recA)), some (.lst ((LS b c d).map recA)), some (.lst ((LT b c d).map recA)), some (.lst ((LU b c d).map recA)), some (.ref (rest.length + 1)), none, none, none, none, none, none, none] ∧ Fs (rest ++ [.lst (([⟨LF b c d, LS b c d, (2, b), "unlike"⟩, ⟨LF1 b c d, LS b c d, (2, b), "branch"⟩, ⟨LT b c d, LU b c d, (2, c), "unlike"⟩] : List Cs).map csA)]) [] M) ?_ ?_
  · simp! []
    refine ⟨f_tyL (i := rest.length) hM (g0 _), ?_⟩
    (repeat (first | (refine f_append (i := rest.length) hM (g0 _) (by simp) fun M2 h2 => ?_) | refine ⟨by simp, ?_⟩))
    rw [gs] at h2
    first | exact ⟨rfl, h2⟩ | exact h2
  rintro _ M ⟨rfl, hM⟩
  have hmin : ∀ M, gMinD [.tup [.tup [.int 2, .str b], .str "branch"], .tup [.tup [.int 2, .str c], .str "unlike"]] M = .ok (if nlt (2, b) (2, c) = true then .tup [nameA (2, b), .str "branch"] else .tup [nameA (2, c), .str "unlike"]) M := fun M => q_minD hbc
  obtain ⟨x4, ok4, eu4, ev4, e4⟩ := fourth hbc hbd hcd tb tc
  refine wp_seq (fun G M => G = [some (.lst wl), some (.str b), some (.str c), some (.str d), some srtJ, some (.lst ((LF b c d).map recA)), some (.lst ((LS b c d).map recA)), some (.lst ((LT b c d).map recA)), some (.lst ((LU b c d).map recA)), some (.ref (rest.length + 1)), some (.tup [nameA x4.n, .str x4.s]), none, none, none, none, none, none] ∧ Fs (rest ++ [.lst (([⟨LF b c d, LS b c d, (2, b), "unlike"⟩, ⟨LF1 b c d, LS b c d, (2, b), "branch"⟩, ⟨LT b c d, LU b c d, (2, c), "unlike"⟩] : List Cs).map csA)]) [] M) ?_ ?_
  · simp! [hmin]
    rw [e4]
    (repeat (first | exact ⟨rfl, hM⟩ | exact hM | refine ⟨by simp, ?_⟩ | refine ⟨rfl, ?_⟩))
  rintro _ M ⟨rfl, hM⟩
  refine wp_seq (fun G M => G = [some (.lst wl), some (.str b), some (.str c), some (.str d), some srtJ, some (.lst ((LF b c d).map recA)), some (.lst ((LS b c d).map recA)), some (.lst ((LT b c d).map recA)), some (.lst ((LU b c d).map recA)), some (.ref (rest.length + 1)), some (.tup [nameA x4.n, .str x4.s]), none, none, none, none, none, none] ∧ Fs (rest ++ [.lst ((([⟨LF b c d, LS b c d, (2, b), "unlike"⟩, ⟨LF1 b c d, LS b c d, (2, b), "branch"⟩, ⟨LT b c d, LU b c d, (2, c), "unlike"⟩] : List Cs) ++ [x4]).map csA)]) [] M) ?_ ?_
  · simp! [cF1]
    refine ⟨f_tyL (i := rest.length) hM (g0 _), ?_⟩
    (repeat (first | (refine f_append (i := rest.length) hM (g0 _) (by simp) fun M2 h2 => ?_) | refine ⟨by simp [LF1, LT], ?_⟩))
    rw [gs] at h2
    have e9 : csA x4 = .tup [.lst ((LF1 b c d).map recA ++ (LT b c d).map recA), .lst ((LU b c d).map recA), .tup [nameA x4.n, .str x4.s]] := by
      unfold csA
      rw [eu4, ev4]
      rfl
    rw [← e9] at h2
    first | exact ⟨rfl, h2⟩ | exact h2
  rintro _ M ⟨rfl, hM⟩
  generalize hcs : ([⟨LF b c d, LS b c d, (2, b), "unlike"⟩, ⟨LF1 b c d, LS b c d, (2, b), "branch"⟩, ⟨LT b c d, LU b c d, (2, c), "unlike"⟩] ++ [x4] : List Cs) = cs at hM
  have hall : ∀ x ∈ cs, CsOk x := fun x hx => by
    rw [← hcs] at hx
    have un : Tx AnyC 10 ("unlike" : Str) := txU
    simp only [List.cons_append, List.nil_append, List.mem_cons, List.not_mem_nil, or_false] at hx
    have hcb := hbc.symm
    have hdb := hbd.symm
    have hdc := hcd.symm
    rcases hx with rfl | rfl | rfl | rfl
    · exact ⟨⟨by simp [LF, rc_nm, nms, *], by simp [LF, rc], by simp [LF]⟩, ⟨by simp [LS, rc_nm, nms, *], by simp [LS, rc], by simp [LS]⟩, j1 hbc hbd hcd, okB tb, un⟩
    · exact ⟨⟨by simp [LF1, rc_nm, nms, *], by simp [LF1, rc], by simp [LF1]⟩, ⟨by simp [LS, rc_nm, nms, *], by simp [LS, rc], by simp [LS]⟩, j2 hbc hbd hcd, okB tb, txB⟩
    · exact ⟨⟨by simp [LT, rc_nm, nms, *], by simp [LT, rc], by simp [LT]⟩, ⟨by simp [LU, rc_nm, nms, *], by simp [LU, rc], by simp [LU]⟩, j3 hbc hbd hcd, okB tc, un⟩
    · exact ⟨by rw [eu4]; exact ⟨by simp [LFT, rc_nm, nms, *], by simp [LFT, rc], by simp [LFT]⟩, by rw [ev4]; exact ⟨by simp [LU, rc_nm, nms, *], by simp [LU, rc], by simp [LU]⟩, ⟨ok4.1, ok4.2.1⟩, ok4.2.2.1, ok4.2.2.2⟩
  have hsq := f_seq hM (g0 _)
  refine wp_seq (fun G M => (∃ g11 g12 g13 g14 g15 g16, G = [some (.lst wl), some (.str b), some (.str c), some (.str d), some srtJ, some (.lst ((LF b c d).map recA)), some (.lst ((LS b c d).map recA)), some (.lst ((LT b c d).map recA)), some (.lst ((LU b c d).map recA)), some (.ref (rest.length + 1)), some (.tup [nameA x4.n, .str x4.s]), g11, g12, g13, g14, g15, g16]) ∧ ∃ tmp, Fs (rest ++ [.lst (cs.map csA)] ++ tmp) [] M) ?_ ?_
  · rw [wpS_for]
    simp! [hsq]
    refine wp_fold csA (fun (u : Unit) _ => u) (fun _ G M => (∃ g11 g12 g13 g14 g15 g16, G = [some (.lst wl), some (.str b), some (.str c), some (.str d), some srtJ, some (.lst ((LF b c d).map recA)), some (.lst ((LS b c d).map recA)), some (.lst ((LT b c d).map recA)), some (.lst ((LU b c d).map recA)), some (.ref (rest.length + 1)), some (.tup [nameA x4.n, .str x4.s]), g11, g12, g13, g14, g15, g16]) ∧ ∃ tmp, Fs (rest ++ [.lst (cs.map csA)] ++ tmp) [] M) (fun _ G M h => by
      obtain ⟨_, tmp, h2⟩ := h
      exact f_held h2 (by simp)) cs () _ _ ⟨⟨_, _, _, _, _, _, rfl⟩, [], by rw [List.append_nil]; exact hM⟩ ?_ ?_
    · rintro _ x G M hx ⟨⟨g11, g12, g13, g14, g15, g16, rfl⟩, tmp, hF⟩
      generalize hT : rest ++ [AV.lst (cs.map csA)] ++ tmp = T at hF
      have ok := hall x hx
      rw [show csA x = .tup [.lst (x.u.map recA), .lst (x.v.map recA), .tup [nameA x.n, .str x.s]] from rfl, w_gTp]
      refine ⟨rfl, ?_⟩
      simp -implicitDefEqProofs only [w_gsCons, w_gsNil, v_nm, wpR_ok, List.set_cons_succ, List.set_cons_zero]
      have su : ∀ M, gSorted [.lst (x.u.map recA)] M = .ok (.lst ((sortR x.u).map recA)) M := fun M => v_sortR ok.u.nd ok.u.pd
      have sv : ∀ M, gSorted [.lst (x.v.map recA)] M = .ok (.lst ((sortR x.v).map recA)) M := fun M => v_sortR ok.v.nd ok.v.pd
      refine wp_seq (fun G M => G = [some (.lst wl), some (.str b), some (.str c), some (.str d), some srtJ, some (.lst ((LF b c d).map recA)), some (.lst ((LS b c d).map recA)), some (.lst ((LT b c d).map recA)), some (.lst ((LU b c d).map recA)), some (.ref (rest.length + 1)), some (.tup [nameA x4.n, .str x4.s]), some (.lst (x.u.map recA)), some (.lst (x.v.map recA)), some (.tup [nameA x.n, .str x.s]), g14, some (rcsA (sortR x.u)), some (rcsA (sortR x.v))] ∧ Fs T [] M) ?_ ?_
      · simp! [su, sv]
        (repeat (first | exact ⟨rfl, hF⟩ | exact hF | refine ⟨by simp, ?_⟩ | refine ⟨rfl, ?_⟩))
      rintro _ M ⟨rfl, hF⟩
      refine wp_seq (fun G M => G = [some (.lst wl), some (.str b), some (.str c), some (.str d), some srtJ, some (.lst ((LF b c d).map recA)), some (.lst ((LS b c d).map recA)), some (.lst ((LT b c d).map recA)), some (.lst ((LU b c d).map recA)), some (.ref (rest.length + 1)), some (.tup [nameA x4.n, .str x4.s]), some (.lst (x.u.map recA)), some (.lst (x.v.map recA)), some (.tup [nameA x.n, .str x.s]), some (.ref (T.length + 1)), some (rcsA (sortR x.u)), some (rcsA (sortR x.v))] ∧ Fs (T ++ [.lst [jnA x.n x.s]]) [] M) ?_ ?_
      · simp! []
        refine d_jn hF ok.u ok.v ok.e.1 fun M1 h1 => ?_
        rw [h1.len]
        (repeat (first | exact ⟨rfl, h1.push _⟩ | exact h1.push _ | refine ⟨by simp, ?_⟩ | refine ⟨rfl, ?_⟩))
      rintro _ M ⟨rfl, hF⟩
      have g2 : ∀ y : AV, (T ++ [y])[T.length]? = some y := fun y => by simp
      have gs2 : ∀ y z : AV, (T ++ [y]).set (T.length) z = T ++ [z] := fun y z => by simp
      refine wp_seq (fun G M => G = [some (.lst wl), some (.str b), some (.str c), some (.str d), some srtJ, some (.lst ((LF b c d).map recA)), some (.lst ((LS b c d).map recA)), some (.lst ((LT b c d).map recA)), some (.lst ((LU b c d).map recA)), some (.ref (rest.length + 1)), some (.tup [nameA x4.n, .str x4.s]), some (.lst (x.u.map recA)), some (.lst (x.v.map recA)), some (.tup [nameA x.n, .str x.s]), some (.ref (T.length + 1)), some (rcsA (sortR x.u)), some (rcsA (sortR x.v))] ∧ Fs (T ++ [.lst [jnA x.n x.s, jnA x.n x.s]]) [] M) ?_ ?_
      · simp! []
        refine ⟨f_tyL (i := T.length) hF (g2 _), ?_⟩
        refine d_jn hF ok.v ok.u ok.e.2 fun M1 h1 => ?_
        refine f_append (i := T.length) h1 (g2 _) (by simp) fun M2 h2 => ?_
        rw [gs2] at h2
        first | exact ⟨rfl, h2⟩ | exact h2
      rintro _ M ⟨rfl, hF⟩
      have hsh : Sh 4 5000 (.lst (List.replicate 2 (jnA x.n x.s))) := by
        refine (sh_lst (n := 2000) (d := 3) fun y hy => ?_).mono (by decide) (by rw [List.length_replicate]; omega)
        rw [(List.mem_replicate.mp hy).2]
        exact sh_jnA ok.n ok.s
      have hr1 := f_reprL (i := T.length) (xs := List.replicate 2 (jnA x.n x.s)) hF (g2 _) hsh (by decide) (by decide)
      have hr2 : ∀ M, gRepr [.lst (List.replicate 2 (jnA x.n x.s))] M = .ok (.str (shw (.lst (List.replicate 2 (jnA x.n x.s))))) M := fun M => v_repr hsh (by decide) (by decide)
      have r2 : ∀ M, gRep (.lst [.tup [srtJ, nameA x.n, .str x.s]]) (.int 2) M = .ok (.lst (List.replicate 2 (jnA x.n x.s))) M := fun M => v_rep1 (jnA x.n x.s) (k := 2) (by decide)
      have hr3 : ∀ M, gRepr [.lst [jnA x.n x.s, jnA x.n x.s]] M = .ok (.str (shw (.lst (List.replicate 2 (jnA x.n x.s))))) M := hr2
      simp! [hr1, r2]
      refine ⟨by simp, by simp, by simp, ?_⟩
      simp! [hr3]
      simp only [decide_true, Bool.not_true, Bool.false_eq_true, if_false]
      refine ⟨⟨_, _, _, _, _, _, rfl⟩, tmp ++ [.lst [jnA x.n x.s, jnA x.n x.s]], ?_⟩
      rw [← List.append_assoc, hT]
      exact hF
    · rintro G M ⟨⟨g11, g12, g13, g14, g15, g16, rfl⟩, hF⟩
      exact ⟨⟨_, _, _, _, _, _, rfl⟩, hF⟩
  rintro _ M ⟨⟨g11, g12, g13, g14, g15, g16, rfl⟩, tmp, hM⟩
  rw [List.append_assoc] at hM
  simp! []
  first | exact ⟨_, hM, .inl ⟨rfl, q⟩⟩ | exact ⟨_, hM, .inl ⟨by simp [plain], by simpa using q⟩⟩
end
end K16

namespace K16
open PySem hiding Env plain
open L2 Mx Px StrLaws
def W3 (b c : Str) : List Rc := [rc (1, b) b [], rc (1, c) c [], rc (2, c) c [(1, c)]]
def A3 (b c : Str) : List Nm := [(1, b), (1, c), (2, c)]
def B3 (b c : Str) : List Nm := [(1, c), (2, c), (1, b)]
section
variable {b c : Str}
theorem sortN_one (n : Nm) : sortN [n] = [n] := by
  simp [sortN]
theorem sortN_none : sortN [] = [] := by
  simp [sortN]
theorem w3_ok (hbc : b ≠ c) (tb : Tx AnyC 20 b) (tc : Tx AnyC 20 c) : WOk (W3 b c) := by
  have hd : DeedOk pdA := deed_ok (s := "put") (r := [.int 0, .str "ab"]) ⟨by decide +kernel, by decide +kernel⟩ (fun a ha => by
    simp only [List.mem_cons, List.not_mem_nil, or_false] at ha
    rcases ha with rfl | rfl
    · exact (sh_int (i := 0) 3 (by decide) (by decide) (by decide)).mono (by decide) (by decide)
    · exact (show Tx AnyC 10 ("ab" : Str) from ⟨by decide +kernel, by decide +kernel⟩).sh.mono (by decide) (by decide)) (by decide)
  have h1 : WOk [rc (1, b) b []] := WOk.snoc (w := []) .nil ⟨by simp [rc], by simp [rc], ⟨[], by simp [rc, sortN]⟩, by simp [rc], by simp [rc], by simp [rc, maxD0], by simp, ⟨by show (1 : Int) ≤ 1; decide, by show (1 : Int) ≤ 100; decide, tb⟩, tb, hd⟩
  have h2 : WOk [rc (1, b) b [], rc (1, c) c []] := WOk.snoc (w := [rc (1, b) b []]) h1 ⟨by simp [rc], by simp [rc], ⟨[], by simp [rc, sortN]⟩, by simp [rc], by simp [rc], by simp [rc, maxD0], by simp [rc, hbc], ⟨by show (1 : Int) ≤ 1; decide, by show (1 : Int) ≤ 100; decide, tc⟩, tc, hd⟩
  exact WOk.snoc (w := [rc (1, b) b [], rc (1, c) c []]) h2 ⟨by simp [rc], by simp [rc], ⟨[(1, c)], by simp [rc, sortN]⟩, by simp [rc, knowsW, hbc], by simp [rc, knowsW, hbc], by simp [rc, maxD0, maxI], by simp [rc, hbc], ⟨by show (1 : Int) ≤ 2; decide, by show (2 : Int) ≤ 100; decide, tc⟩, tc, hd⟩
theorem led_sort {u : List Rc} (hnd : (nms u).Nodup) : rcsA (sortR u) = ledA u (allN u) := by
  have e1 : (sortR u).map Rc.nm = allN u := by
    unfold sortR allN sortN
    exact List.map_mergeSort (f := Rc.nm) (r := fun a b : Rc => !nlt b.nm a.nm) (s := fun a b : Nm => !nlt b a) fun a _ b _ => rfl
  unfold ledA
  rw [← e1, List.map_map]
  show AV.tup ((sortR u).map recA) = _
  refine congrArg AV.tup (List.map_congr_left fun r hr => ?_)
  have hr' : r ∈ u := (sortR_perm u).mem_iff.mp hr
  have h2 := recOf_in (w := u) (n := r.nm) (List.mem_map_of_mem hr')
  show recA r = recA (recOf u r.nm)
  exact congrArg recA (nm_inj hnd hr' h2.2.1 (recOf_nm u r.nm).symm)
theorem kn3 (hbc : b ≠ c) : knowsW (W3 b c) (1, b) = [] ∧ knowsW (W3 b c) (1, c) = [] ∧ knowsW (W3 b c) (2, c) = [(1, c)] := by
  refine ⟨?_, ?_, ?_⟩ <;> simp [knowsW, W3, rc, hbc]
def inl (k : Int) : AV := .int k
def dues : List (List AV × (Str × Int)) := [([.int 2], ("place", 0)), ([.int 1, .bl true], ("place", 1)), ([.int 1], ("known", 0)), ([.int 1, .int 5], ("place", 1)), ([.int 0], ("end", -1)), ([.int 0, .int 1, .int 0], ("known", 2)), ([.int 0, .int 0, .int 1], ("known", 2)), ([], ("end", -1)), ([.int 0, .int (-1)], ("place", 1)), ([.int 0, .int 1, .int 1], ("end", -1))]
theorem due_all (hbc : b ≠ c) : ∀ p ∈ dues, lexE (W3 b c) (A3 b c) (B3 b c) p.1 = .inr p.2 := by
  obtain ⟨k1, k2, k3⟩ := kn3 hbc
  have hcb := hbc.symm
  intro p hp
  simp only [dues, List.mem_cons, List.not_mem_nil, or_false] at hp
  rcases hp with rfl | rfl | rfl | rfl | rfl | rfl | rfl | rfl | rfl | rfl <;> simp [lexE, badAt, plA, wkE, swp, A3, B3, List.findIdx?, List.findIdx?.go, *]
theorem due_last (hbc : b ≠ c) : lexE (W3 b c) (A3 b c) (B3 b c) [.int 0, .int 1] = .inl 2 := by
  obtain ⟨k1, k2, k3⟩ := kn3 hbc
  have hcb := hbc.symm
  simp [lexE, badAt, plA, wkE, swp, A3, B3, List.findIdx?, List.findIdx?.go, *]
end
end K16

namespace K16
open PySem hiding Env plain
open L2 Mx Px StrLaws
local macro_rules | `(tactic| simp! [$ls,*]) => `(tactic| try simp -implicitDefEqProofs only [w_enumT, v_enumC, v_enumT, v_seqC, v_lenC, v_listC, v_listRL, w_keys, List.map_cons, List.map_nil, List.cons_append, List.nil_append, List.replicate, List.set_cons_succ, List.set_cons_zero, wipeG, wpS_then, wpS_set, wpS_if, wpS_mret, wpS_retN, wpS_mnext, wpS_mbrk, wpS_mcnt, wpS_exp, wpS_asg, wpS_for, w_c, w_bin, w_un, w_ifE, w_andV, w_orV, w_notV, w_call, w_chain, w_meth, w_meth0, w_sl, w_noPart, w_part, w_nil, w_cons, w_bl, w_tru, w_and, w_or, w_not, w_lcV, w_lcR, w_lc, w_seq, w_rng1, w_rng2, w_var0, w_var1, w_var2, w_var3, w_var4, w_var5, w_var6, w_var7, w_var8, w_var9, w_var10, w_var11, w_var12, w_var13, w_var14, w_var15, w_var16, w_var17, w_var18, w_var19, w_var20, w_dictT, w_dictK, w_gTp, wpS_par, wpS_par3, w_zip, w_enum, w_rev, v_zipL, v_zipT, v_enumL, v_revL, v_revT, w_gsCons, w_gsNil, w_callK, wpR_ok, wpR_sized, v_nm, v_addI, v_addS, v_addT, v_addL, v_sub, v_neg, w_mul, w_div, w_mod, w_pow, v_ordI, v_eqI, v_neI, v_eqS, v_neS, v_lenS, v_lenL, v_lenF, v_lenT, v_truB, v_seqS, v_seqT, v_seqL, v_seqF, v_listT, v_listL, v_tupleL, v_tupleT, v_tupD, v_lstD, v_lstR, v_slT, v_slL, v_slF, w_slS, defD_rt, defD_nx, defD_ex, defD_bk, defD_ct, AV.bl.injEq, AV.int.injEq, Option.some.injEq, exists_eq_left', tyS, if_true, if_false, Bool.false_eq_true, true_and, and_true, $ls,*])
theorem e_let : m_lets_exchanges = m_let := rfl
section
variable {w : List Rc} {rest tmp : List AV} {fz : List Nat} {M : AH} {P : AV → AH → Prop} {E : Str → List (Str × AV) → AH → Prop} {s : Str} {k : Int} {b c d : Str}
abbrev srtP : AV := .lst [.bl false, .bl false, .bl true, .bl true, .bl false]
def ppA (s : Str) (k : Int) : AV := .tup [srtP, .str s, .int k]
theorem w_tP {r : Res AV} (h : wpR r (fun _ _ => False) (fun c fs M => c = "NoPaper" ∧ fs = [(("at" : Str), AV.int k), (("word" : Str), AV.str s)] ∧ P (ppA s k) M)) : wpR (t__law_refused r) P E := by
  cases r with
  | ok a M => exact h.elim
  | exc c fs M =>
    obtain ⟨rfl, rfl, hp⟩ := h
    rw [told_paper s k]
    exact hp
  | stuck => exact h.elim
theorem sh_ppA (hs : Tx AnyC 10 s) (hk : k.natAbs < 10 ^ 2) : Sh 3 2000 (ppA s k) := by
  have h1 : Sh 1 100 srtP := ⟨by decide +kernel, by decide +kernel, by decide +kernel⟩
  refine (sh_tup (n := 500) (d := 2) (xs := [srtP, .str s, .int k]) fun y hy => ?_).mono (by decide) (by simp)
  simp only [List.mem_cons, List.not_mem_nil, or_false] at hy
  rcases hy with rfl | rfl | rfl
  · exact h1.mono (by decide) (by decide)
  · exact hs.sh.mono (by decide) (by decide)
  · exact (sh_int 2 hk (by decide) (by decide)).mono (by decide) (by decide)
abbrev Pc := AV × Str × Int
def pcA (p : Pc) : AV := .tup [p.1, .tup [.str p.2.1, .int p.2.2]]
def pcs : List Pc := [(.lst [.int 0, .int 1], "shape", -1), (.tup [.int 2], "place", 0), (.tup [.int 1, .bl true], "place", 1), (.tup [.int 1], "known", 0), (.tup [.int 1, .int 5], "place", 1), (.tup [.int 0], "end", -1), (.tup [.int 0, .int 1, .int 0], "known", 2), (.tup [.int 0, .int 0, .int 1], "known", 2), (.tup [], "end", -1), (.tup [.int 0, .int (-1)], "place", 1), (.non, "shape", -1), (.tup [.int 0, .int 1, .int 1], "end", -1)]
def Due (b c : Str) (p : Pc) : Prop := ((∀ M, gIsi "tuple" p.1 M = .ok (.bl false) M) ∧ p.2 = (("shape" : Str), (-1 : Int))) ∨ ∃ xs, p.1 = .tup xs ∧ xs.all (plain 10) = true ∧ xs.length ≤ 5 ∧ lexE (W3 b c) (A3 b c) (B3 b c) xs = .inr p.2
theorem pcs_due (hbc : b ≠ c) : ∀ p ∈ pcs, Due b c p ∧ Tx AnyC 10 p.2.1 ∧ p.2.2.natAbs < 10 ^ 2 := by
  have hd := due_all hbc
  have t1 : Tx AnyC 10 ("shape" : Str) := ⟨by decide +kernel, by decide +kernel⟩
  have t2 : Tx AnyC 10 ("place" : Str) := ⟨by decide +kernel, by decide +kernel⟩
  have t3 : Tx AnyC 10 ("known" : Str) := ⟨by decide +kernel, by decide +kernel⟩
  have t4 : Tx AnyC 10 ("end" : Str) := ⟨by decide +kernel, by decide +kernel⟩
  intro p hp
  simp only [pcs, List.mem_cons, List.not_mem_nil, or_false] at hp
  rcases hp with rfl | rfl | rfl | rfl | rfl | rfl | rfl | rfl | rfl | rfl | rfl | rfl
  · exact ⟨.inl ⟨fun M => by simp [gIsi, tyN, isiB], rfl⟩, t1, by decide⟩
  · exact ⟨.inr ⟨_, rfl, rfl, by decide, hd (_, "place", 0) (by simp [dues])⟩, t2, by decide⟩
  · exact ⟨.inr ⟨_, rfl, rfl, by decide, hd (_, "place", 1) (by simp [dues])⟩, t2, by decide⟩
  · exact ⟨.inr ⟨_, rfl, rfl, by decide, hd (_, "known", 0) (by simp [dues])⟩, t3, by decide⟩
  · exact ⟨.inr ⟨_, rfl, rfl, by decide, hd (_, "place", 1) (by simp [dues])⟩, t2, by decide⟩
  · exact ⟨.inr ⟨_, rfl, rfl, by decide, hd (_, "end", -1) (by simp [dues])⟩, t4, by decide⟩
  · exact ⟨.inr ⟨_, rfl, rfl, by decide, hd (_, "known", 2) (by simp [dues])⟩, t3, by decide⟩
  · exact ⟨.inr ⟨_, rfl, rfl, by decide, hd (_, "known", 2) (by simp [dues])⟩, t3, by decide⟩
  · exact ⟨.inr ⟨_, rfl, rfl, by decide, hd (_, "end", -1) (by simp [dues])⟩, t4, by decide⟩
  · exact ⟨.inr ⟨_, rfl, rfl, by decide, hd (_, "place", 1) (by simp [dues])⟩, t2, by decide⟩
  · exact ⟨.inl ⟨fun M => by simp [gIsi, tyN, isiB], rfl⟩, t1, by decide⟩
  · exact ⟨.inr ⟨_, rfl, rfl, by decide, hd (_, "end", -1) (by simp [dues])⟩, t4, by decide⟩
theorem a3_in : ∀ n ∈ A3 b c, n ∈ namesW (W3 b c) := fun n hn => hn
theorem d_pp {p : Pc} (hM : Fs rest [] M) (hw : WOk (W3 b c)) (h : Due b c p) (q : ∀ M', Fs rest [] M' → P (ppA p.2.1 p.2.2) M') : wpR (t__law_refused (m_let [ledA (W3 b c) (allN (W3 b c)), .tup ((A3 b c).map nameA), .tup ((B3 b c).map nameA), p.1] M)) P E := by
  refine w_tP (s := p.2.1) (k := p.2.2) ?_
  have fin : ∀ M', Fs rest [] M' → PaperE (fun _ _ => False) (fun c fs M => c = "NoPaper" ∧ fs = [(("at" : Str), AV.int p.2.2), (("word" : Str), AV.str p.2.1)] ∧ P (ppA p.2.1 p.2.2) M) M' (.inr p.2) := fun M' h' => ⟨rfl, rfl, q M' h'⟩
  rcases h with ⟨h1, h2⟩ | ⟨xs, h1, h2, h3, h4⟩
  · refine d_letN hM h1 fun M' h' => ?_
    rw [← h2]
    exact fin M' h'
  · rw [h1]
    refine d_let hM hw (by show 3 ≤ 20; decide) (.inl rfl) (.inl rfl) a3_in (by show 3 ≤ 1000; decide) (fun a ha => List.all_eq_true.mp h2 a ha) (by omega) fun M' h' => ?_
    rw [h4]
    exact fin M' h'
theorem d_papersright {wl : List AV} (hM : Fs rest [] M) (hw : cutA wl none (some 3) = [.str b, .str c, .str d]) (hbc : b ≠ c) (tb : Tx AnyC 20 b) (tc : Tx AnyC 20 c) (q : ∀ M', Fs rest [] M' → P (.bl true) M') : wpR (m__law_papers_right [.ref 0, .lst wl] M) P E := by
  refine wp_gcF hM ?_
  refine wp_def rfl ?_
  unfold b__law_papers_right
  rw [e_let, e_draw]
  have hok := w3_ok hbc tb tc
  have h0 : 0 ∉ ([] : List Nat) := by simp
  refine wp_seq (fun G M => G = [some (.ref 0), some (.lst wl), some (.str b), some (.str c), some (.str d), none, none, none, none, none, none, none, none, none] ∧ Fs rest [] M) ?_ ?_
  · simp! [hw, w_gLsL]
    first | exact ⟨rfl, hM⟩ | exact ⟨by simp, rfl, hM⟩ | exact ⟨by simp, hM⟩
  rintro _ M ⟨rfl, hM⟩
  refine wp_seq (fun G M => G = [some (.ref 0), some (.lst wl), some (.str b), some (.str c), some (.str d), some srtP, none, none, none, none, none, none, none, none] ∧ Fs rest [] M) ?_ ?_
  · simp! []
    (repeat (first | exact ⟨rfl, hM⟩ | exact hM | refine ⟨by simp [pcs], ?_⟩ | refine ⟨rfl, ?_⟩))
  rintro _ M ⟨rfl, hM⟩
  have p1 : ∀ (k : Int) (x h : Str) M, m__law_put [.tup [.int k, .str x], .str h, .tup []] M = .ok (recA (rc (k, x) h [])) M := fun k x h M => q_put (k, x) h []
  have p2 : ∀ (k : Int) (x h : Str) (j : Int) (y : Str) M, m__law_put [.tup [.int k, .str x], .str h, .tup [.tup [.int j, .str y]]] M = .ok (recA (rc (k, x) h [(j, y)])) M := fun k x h j y M => q_put (k, x) h [(j, y)]
  have hnd : (nms (W3 b c)).Nodup := by simp [W3, rc_nm, nms, hbc]
  have hso : ∀ M, gSorted [.lst [recA (rc (1, b) b []), recA (rc (1, c) c []), recA (rc (2, c) c [(1, c)])]] M = .ok (.lst ((sortR (W3 b c)).map recA)) M := fun M => v_sortR (us := W3 b c) hnd (by simp [W3, rc])
  refine wp_seq (fun G M => G = [some (.ref 0), some (.lst wl), some (.str b), some (.str c), some (.str d), some srtP, none, none, none, none, some (ledA (W3 b c) (allN (W3 b c))), none, none, none] ∧ Fs rest [] M) ?_ ?_
  · rw [← led_sort hnd]
    simp! [p1, p2, hso]
    (repeat (first | exact ⟨rfl, hM⟩ | exact hM | refine ⟨by simp [pcs], ?_⟩ | refine ⟨rfl, ?_⟩))
  rintro _ M ⟨rfl, hM⟩
  refine wp_seq (fun G M => G = [some (.ref 0), some (.lst wl), some (.str b), some (.str c), some (.str d), some srtP, none, none, none, none, some (ledA (W3 b c) (allN (W3 b c))), some (.tup ((A3 b c).map nameA)), some (.tup ((B3 b c).map nameA)), none] ∧ Fs rest [] M) ?_ ?_
  · simp! []
    (repeat (first | exact ⟨rfl, hM⟩ | exact hM | refine ⟨by simp [pcs], ?_⟩ | refine ⟨rfl, ?_⟩))
  rintro _ M ⟨rfl, hM⟩
  have hne : ∀ M, gNeg (.int 1) M = .ok (.int (-1)) M := fun _ => rfl
  refine wp_seq (fun G M => G = [some (.ref 0), some (.lst wl), some (.str b), some (.str c), some (.str d), some srtP, some (.lst ((pcs.take 4).map pcA)), none, none, none, some (ledA (W3 b c) (allN (W3 b c))), some (.tup ((A3 b c).map nameA)), some (.tup ((B3 b c).map nameA)), none] ∧ Fs rest [] M) ?_ ?_
  · simp! []
    (repeat (first | exact ⟨rfl, hM⟩ | exact hM | refine ⟨by simp [pcs], ?_⟩ | refine ⟨rfl, ?_⟩))
  rintro _ M ⟨rfl, hM⟩
  refine wp_seq (fun G M => G = [some (.ref 0), some (.lst wl), some (.str b), some (.str c), some (.str d), some srtP, some (.lst ((pcs.take 8).map pcA)), none, none, none, some (ledA (W3 b c) (allN (W3 b c))), some (.tup ((A3 b c).map nameA)), some (.tup ((B3 b c).map nameA)), none] ∧ Fs rest [] M) ?_ ?_
  · simp! []
    (repeat (first | exact ⟨rfl, hM⟩ | exact hM | refine ⟨by simp [pcs], ?_⟩ | refine ⟨rfl, ?_⟩))
  rintro _ M ⟨rfl, hM⟩
  refine wp_seq (fun G M => G = [some (.ref 0), some (.lst wl), some (.str b), some (.str c), some (.str d), some srtP, some (.lst (pcs.map pcA)), none, none, none, some (ledA (W3 b c) (allN (W3 b c))), some (.tup ((A3 b c).map nameA)), some (.tup ((B3 b c).map nameA)), none] ∧ Fs rest [] M) ?_ ?_
  · simp! []
    (repeat (first | exact ⟨rfl, hM⟩ | exact hM | refine ⟨by simp [pcs], ?_⟩ | refine ⟨rfl, ?_⟩))
  rintro _ M ⟨rfl, hM⟩
  have hall := pcs_due hbc
  have hpl : pcs.length = 12 := rfl
  refine wp_seq (fun G M => ∃ p0 ∈ pcs, G = [some (.ref 0), some (.lst wl), some (.str b), some (.str c), some (.str d), some srtP, some (.lst (pcs.map pcA)), some p0.1, some (.tup [.str p0.2.1, .int p0.2.2]), none, some (ledA (W3 b c) (allN (W3 b c))), some (.tup ((A3 b c).map nameA)), some (.tup ((B3 b c).map nameA)), none] ∧ Fs rest [] M) ?_ ?_
  · simp! []
    refine d_draw h0 hM (by decide) (by decide) fun r M1 r0 r1 h1 => ?_
    refine w_one r0 (by rw [List.length_map, hpl]; exact r1) fun a ha => ?_
    obtain ⟨p0, hp0, rfl⟩ := List.mem_map.mp ha
    rw [show pcA p0 = .tup [p0.1, .tup [.str p0.2.1, .int p0.2.2]] from rfl, w_gTp]
    refine ⟨rfl, ?_⟩
    simp! []
    exact ⟨p0, hp0, rfl, h1⟩
  rintro _ M ⟨p0, hp0, rfl, hM⟩
  refine wp_seq (fun G M => (∃ g9 g13, G = [some (.ref 0), some (.lst wl), some (.str b), some (.str c), some (.str d), some srtP, some (.lst (pcs.map pcA)), some p0.1, some (.tup [.str p0.2.1, .int p0.2.2]), g9, some (ledA (W3 b c) (allN (W3 b c))), some (.tup ((A3 b c).map nameA)), some (.tup ((B3 b c).map nameA)), g13]) ∧ Fs rest [] M) ?_ ?_
  · rw [wpS_for]
    simp! []
    refine ⟨by simp, by simp, by simp [pcs], ?_⟩
    have el : pcs.map pcA ++ [.tup [p0.1, .tup [.str p0.2.1, .int p0.2.2]]] = (pcs ++ [p0]).map pcA := by rw [List.map_append]; rfl
    rw [el]
    refine wp_fold (S := ⟨_, none⟩) pcA (fun (u : Unit) _ => u) (fun _ G M => (∃ g9 g13, G = [some (.ref 0), some (.lst wl), some (.str b), some (.str c), some (.str d), some srtP, some (.lst (pcs.map pcA)), some p0.1, some (.tup [.str p0.2.1, .int p0.2.2]), g9, some (ledA (W3 b c) (allN (W3 b c))), some (.tup ((A3 b c).map nameA)), some (.tup ((B3 b c).map nameA)), g13]) ∧ Fs rest [] M) (fun _ _ _ _ => trivial) (pcs ++ [p0]) () _ _ ⟨⟨_, _, rfl⟩, hM⟩ ?_ ?_
    · rintro _ p G M hp ⟨⟨g9, g13, rfl⟩, hF⟩
      have ok : Due b c p ∧ Tx AnyC 10 p.2.1 ∧ p.2.2.natAbs < 10 ^ 2 := by
        rcases List.mem_append.mp hp with z | z
        · exact hall p z
        · rw [List.mem_singleton.mp z]
          exact hall p0 hp0
      rw [show pcA p = .tup [p.1, .tup [.str p.2.1, .int p.2.2]] from rfl, w_gTp]
      refine ⟨rfl, ?_⟩
      simp -implicitDefEqProofs only [w_gsCons, w_gsNil, v_nm, wpR_ok, List.set_cons_succ, List.set_cons_zero]
      have hsh := sh_ppA ok.2.1 ok.2.2
      have hr : ∀ M, gRepr [ppA p.2.1 p.2.2] M = .ok (.str (shw (ppA p.2.1 p.2.2))) M := fun M => v_repr hsh (by decide) (by decide)
      have hr2 : ∀ M, gRepr [.tup [srtP, .str p.2.1, .int p.2.2]] M = .ok (.str (shw (ppA p.2.1 p.2.2))) M := hr
      simp! []
      refine d_pp hF hok ok.1 fun M1 h1 => ?_
      simp! [hr]
      refine ⟨by simp, by simp, ?_⟩
      simp! [hr2]
      simp only [decide_true, Bool.not_true, Bool.false_eq_true, if_false]
      exact ⟨⟨_, _, rfl⟩, h1⟩
    · rintro G M ⟨⟨g9, g13, rfl⟩, hF⟩
      exact ⟨⟨_, _, rfl⟩, hF⟩
  rintro _ M ⟨⟨g9, g13, rfl⟩, hM⟩
  have hr2 : ∀ M, gRepr [.int 2] M = .ok (.str (shw (.int 2))) M := fun M => v_repr (sh_int (i := 2) 3 (by decide) (by decide) (by decide)) (by decide) (by decide)
  simp! []
  refine ⟨by simp, ?_⟩
  refine d_let hM hok (by show 3 ≤ 20; decide) (.inl rfl) (.inl rfl) a3_in (by show 3 ≤ 1000; decide) (by simp [plain]) (by simp) fun M' h' => ?_
  rw [due_last hbc]
  have pe : ∀ (P : AV → AH → Prop) (E : Str → List (Str × AV) → AH → Prop), P (.int 2) M' → PaperE P E M' (.inl 2) := fun _ _ h => h
  refine pe _ _ ?_
  simp! [hr2]
  first | exact ⟨rfl, h'.ofT, q⟩ | exact ⟨by simp [plain], h'.ofT, by simpa using q⟩
end
end K16

namespace K16
open PySem hiding Env plain
open L2 Mx Px StrLaws
local macro_rules | `(tactic| simp! [$ls,*]) => `(tactic| try simp -implicitDefEqProofs only [w_enumT, v_enumC, v_enumT, v_seqC, v_lenC, v_listC, v_listRL, w_keys, List.map_cons, List.map_nil, List.cons_append, List.nil_append, List.replicate, List.set_cons_succ, List.set_cons_zero, wipeG, wpS_then, wpS_set, wpS_if, wpS_mret, wpS_retN, wpS_mnext, wpS_mbrk, wpS_mcnt, wpS_exp, wpS_asg, wpS_for, w_c, w_bin, w_un, w_ifE, w_andV, w_orV, w_notV, w_call, w_chain, w_meth, w_meth0, w_sl, w_noPart, w_part, w_nil, w_cons, w_bl, w_tru, w_and, w_or, w_not, w_lcV, w_lcR, w_lc, w_seq, w_rng1, w_rng2, w_var0, w_var1, w_var2, w_var3, w_var4, w_var5, w_var6, w_var7, w_var8, w_var9, w_var10, w_var11, w_var12, w_var13, w_var14, w_var15, w_var16, w_var17, w_var18, w_var19, w_var20, w_dictT, w_dictK, w_gTp, wpS_par, wpS_par3, w_zip, w_enum, w_rev, v_zipL, v_zipT, v_enumL, v_revL, v_revT, w_gsCons, w_gsNil, w_callK, wpR_ok, wpR_sized, v_nm, v_addI, v_addS, v_addT, v_addL, v_sub, v_neg, w_mul, w_div, w_mod, w_pow, v_ordI, v_eqI, v_neI, v_eqS, v_neS, v_lenS, v_lenL, v_lenF, v_lenT, v_truB, v_seqS, v_seqT, v_seqL, v_seqF, v_listT, v_listL, v_tupleL, v_tupleT, v_tupD, v_lstD, v_lstR, v_slT, v_slL, v_slF, w_slS, defD_rt, defD_nx, defD_ex, defD_bk, defD_ct, AV.bl.injEq, AV.int.injEq, Option.some.injEq, exists_eq_left', tyS, if_true, if_false, Bool.false_eq_true, true_and, and_true, $ls,*])
theorem e_tops : m_tops = m_tps := rfl
section
variable {w : List Rc} {l : List (Str × Nm)} {h : List Nm} {rest tmp : List AV} {M : AH} {P : AV → AH → Prop} {E : Str → List (Str × AV) → AH → Prop}
theorem cnt_le (hw : WOk w) : ∀ n ∈ namesW w, n.1 ≤ (w.length : Int) := by
  induction hw with
  | nil => intro n hn; cases hn
  | @snoc w r hw hr ih =>
    intro n hn
    rw [List.length_append, List.length_singleton]
    rcases List.mem_append.mp (by simpa [namesW] using hn : n ∈ namesW w ++ [r.nm]) with z | z
    · have := ih n z
      omega
    · rw [List.mem_singleton.mp z, hr.cnt]
      rcases maxD0_in (r.floor.map (·.1)) with e | e
      · rw [e]; omega
      · obtain ⟨m, hm, e2⟩ := List.mem_map.mp e
        have := ih m (hr.fl m hm)
        rw [← e2]
        omega
noncomputable def topsN (w : List Rc) : List Nm := (allN w).filter fun n => decide (∀ c ∈ allN w, n ∉ knowsW w c)
noncomputable def stA (w : List Rc) : AV := .tup [ledA w (allN w), .tup ((topsN w).map nameA)]
theorem sh_stA (hw : WOk w) (hl : w.length ≤ 20) : Sh 6 2000000 (stA w) := by
  have hal := len_allN (w := w)
  have s1 := sh_led hw hl (fun n hn => mem_allN.mp hn) (by omega : (allN w).length ≤ 20)
  have s2 : Sh 2 20000 (.tup ((topsN w).map nameA)) := by
    have hlen : (topsN w).length ≤ 20 := Nat.le_trans (List.length_filter_le _ _) (by omega)
    refine (sh_tup (n := 411) (d := 1) fun y hy => ?_).mono (by decide) (by rw [List.length_map]; omega)
    obtain ⟨n, hn, rfl⟩ := List.mem_map.mp hy
    have := hw.names n (mem_allN.mp (List.mem_filter.mp hn).1)
    exact this.sh
  refine (sh_tup (n := 900000) (d := 5) fun y hy => ?_).mono (by decide) (by simp)
  simp only [List.mem_cons, List.not_mem_nil, or_false] at hy
  rcases hy with rfl | rfl
  · exact s1.mono (by decide) (by decide)
  · exact s2.mono (by decide) (by decide)
end
theorem law_ok : Mx.LawOk m_law := by
  intro ns hn
  refine law_of (wp_def rfl ?_)
  unfold b_law
  have h0 : 0 ∉ ([] : List Nat) := by simp
  refine wp_seq (fun G M => G = [some (.fro (ns.map .int)), some (.ref 0), none, none, none, none, none, none, none] ∧ Fs [] [] M) ?_ ?_
  · simp! [e_feed]
    refine w_feed fun M hF => ?_
    exact ⟨rfl, hF⟩
  rintro _ M ⟨rfl, hM⟩
  refine wp_seq (fun G M => ∃ ws : List Str, 3 ≤ ws.length ∧ ws.length ≤ 6 ∧ ws.Nodup ∧ (∀ x ∈ ws, Tx AnyC 20 x) ∧ G = [some (.fro (ns.map .int)), some (.ref 0), some (.lst (ws.map .str)), none, none, none, none, none, none] ∧ Fs [] [] M) ?_ ?_
  · simp! [e_draw, e_words]
    refine d_draw h0 hM (by decide) (by decide) fun n M1 n0 n1 h1 => ?_
    simp! []
    rw [show (3 + n : Int) = ((3 + n.toNat : Nat) : Int) by omega]
    refine d_wordsD h0 h1 (by omega) fun ws M2 hw hnd h2 => ?_
    exact ⟨ws, by rw [hw.1]; omega, by rw [hw.1]; omega, hnd, hw.2, rfl, h2⟩
  rintro _ M ⟨ws, w3, w6, hnd, hws, rfl, hM⟩
  have w0 : 0 < ws.length := by omega
  refine wp_seq (fun G M => ∃ w l h, World ws w l h ∧ w.length ≤ 10 ∧ G = [some (.fro (ns.map .int)), some (.ref 0), some (.lst (ws.map .str)), some (.ref 5), none, none, none, none, none] ∧ Fs (wrest w l h ++ []) [] M) ?_ ?_
  · simp! [e_draw, e_world]
    refine d_draw h0 hM (by decide) (by decide) fun n M1 n0 n1 h1 => ?_
    refine d_world h1 w0 w6 hws n0 (by omega) fun w l h M2 hw hl h2 => ?_
    exact ⟨w, l, h, hw, by omega, rfl, by rwa [List.append_nil]⟩
  rintro _ M ⟨w, l, h, hW, hw10, rfl, hM⟩
  have hw := hW.ok
  have hl := hW.wl
  have hal := len_allN (w := w)
  have hrep : ∀ M, gRepr [stA w] M = .ok (.str (shw (stA w))) M := fun M => v_repr (sh_stA hw hl) (by decide) (by decide)
  have hrep2 : ∀ M, gRepr [.tup [ledA w (allN w), .tup (((allN w).filter fun n => decide (∀ c ∈ allN w, n ∉ knowsW w c)).map nameA)]] M = .ok (.str (shw (stA w))) M := hrep
  refine wp_seq (fun G M => G = [some (.fro (ns.map .int)), some (.ref 0), some (.lst (ws.map .str)), some (.ref 5), some (ledA w (allN w)), none, none, none, none] ∧ Fs (wrest w l h ++ []) [] M) ?_ ?_
  · have hld : gListD [.ref 1] M = .ok (.lst ((namesW w).map nameA)) M := by
      have e : M.objs[1]? = some (.dT (chK w)) := hM.get 0
      have e1 : itemsOf M (.ref 1) = none := by simp [itemsOf, lstR, e]
      have e2 : dctT M (.ref 1) = some (chK w) := by simp [dctT, e]
      simp only [gListD, e1, e2]
      have e3 : keysT (chK w) = (namesW w).map nameA := by
        unfold keysT chK byN namesW
        rw [List.map_map, List.map_map]
        rfl
      rw [e3]
    have hled := d_ledger (L := namesW w) hM hl
    have ef : (allN w).filter (fun n => decide (n ∈ namesW w)) = allN w := List.filter_eq_self.mpr fun n hn => decide_eq_true (mem_allN.mp hn)
    rw [ef] at hled
    simp! [w_ch hM, hld, e_ledger, hled]
    first | exact ⟨rfl, hM⟩ | exact hM
  rintro _ M ⟨rfl, hM⟩
  rw [List.append_nil] at hM
  refine wp_seq (fun G M => G = [some (.fro (ns.map .int)), some (.ref 0), some (.lst (ws.map .str)), some (.ref 5), some (ledA w (allN w)), some (.str (shw (stA w))), none, none, none] ∧ Fs (wrest w l h) [] M) ?_ ?_
  · simp! [e_tops]
    refine d_tops hM hw hl (all_closed hw) (by omega) fun M1 h1 => ?_
    refine ⟨by simp, ?_⟩
    rw [hrep2, wpR_ok]
    first | exact ⟨rfl, h1⟩ | exact h1
  rintro _ M ⟨rfl, hM⟩
  have nok : ∀ (k : Int) (x : Str), 20 ≤ k → k ≤ 40 → x ∈ ws → NmOk (k, x) ∧ (k, x) ∉ allN w := fun k x k0 k1 hx => by
    refine ⟨⟨by show (1 : Int) ≤ k; omega, by show k ≤ 100; omega, hws x hx⟩, fun z => ?_⟩
    have := cnt_le hw _ (mem_allN.mp z)
    have : k ≤ (w.length : Int) := this
    omega
  refine wp_seq (fun G M => (∃ g6 g7 g8, G = [some (.fro (ns.map .int)), some (.ref 0), some (.lst (ws.map .str)), some (.ref 5), some (ledA w (allN w)), some (.str (shw (stA w))), g6, g7, g8]) ∧ Fs (wrest w l h) [] M) ?_ ?_
  · rw [wpS_for]
    simp! []
    rw [w_gRng1 (by unfold rngOk; decide)]
    refine wp_loop (fun k G M => (∃ g6 g7 g8, G = [some (.fro (ns.map .int)), some (.ref 0), some (.lst (ws.map .str)), some (.ref 5), some (ledA w (allN w)), some (.str (shw (stA w))), g6, g7, g8]) ∧ Fs (wrest w l h) [] M) _ 0 _ _ ⟨⟨_, _, _, rfl⟩, hM⟩ ?_ ?_
    · rintro j a G M hj ⟨⟨g6, g7, g8, rfl⟩, hF⟩
      have hj3 : j < 3 := by
        have := (List.getElem?_eq_some_iff.mp hj).1
        rwa [rng_len] at this
      rw [rng_at hj]
      refine wp_seq (fun G M => ∃ n o : Nm, n ∉ allN w ∧ NmOk n ∧ G = [some (.fro (ns.map .int)), some (.ref 0), some (.lst (ws.map .str)), some (.ref 5), some (ledA w (allN w)), some (.str (shw (stA w))), some (.int (0 + (j : Int))), some (nameA n), some (nameA o)] ∧ Fs (wrest w l h) [] M) ?_ ?_
      · simp! [e_draw]
        refine d_draw h0 hF (by decide) (by decide) fun r M1 r0 r1 h1 => ?_
        refine w_one (by omega) (by rw [List.length_map]; omega) fun a ha => ?_
        obtain ⟨x, hx, rfl⟩ := List.mem_map.mp ha
        refine ⟨by simp, ?_⟩
        refine d_draw h0 h1 (by decide) (by decide) fun r2 M2 s0 s1 h2 => ?_
        refine w_one (by decide) (by rw [List.length_map]; omega) fun a ha => ?_
        obtain ⟨y, hy, rfl⟩ := List.mem_map.mp ha
        have ok := nok (20 + r) x (by omega) (by omega) hx
        refine ⟨by simp, (20 + r, x), (30 + r2, y), ok.2, ok.1, rfl, h2⟩
      rintro _ M ⟨n, o, hn, hok, rfl, hF⟩
      simp! []
      refine d_namesright hF hw hl hn hok fun M1 h1 => ?_
      simp! []
      exact ⟨⟨_, _, _, rfl⟩, h1⟩
    · rintro G M ⟨⟨g6, g7, g8, rfl⟩, hF⟩
      exact ⟨⟨_, _, _, rfl⟩, hF⟩
  rintro _ M ⟨⟨g6, g7, g8, rfl⟩, hM⟩
  obtain ⟨b, c, d, r, rfl⟩ : ∃ b c d r, ws = b :: c :: d :: r := by
    match ws, w3 with
    | b :: c :: d :: r, _ => exact ⟨b, c, d, r, rfl⟩
  have hbc : b ≠ c := fun z => by simp [z] at hnd
  have hbd : b ≠ d := fun z => by simp [z] at hnd
  have hcd : c ≠ d := fun z => by simp [z] at hnd
  have tb := hws b (by simp)
  have tc := hws c (by simp)
  have td := hws d (by simp)
  have hcut : cutA ((b :: c :: d :: r).map AV.str) none (some 3) = [.str b, .str c, .str d] := by
    have := cutA_take ((b :: c :: d :: r).map AV.str) 3
    rw [show ((3 : Nat) : Int) = 3 from rfl] at this
    rw [this]
    rfl
  generalize (b :: c :: d :: r).map AV.str = wl at hcut
  refine wp_seq (fun G M => G = [some (.fro (ns.map .int)), some (.ref 0), some (.lst wl), some (.ref 5), some (ledA w (allN w)), some (.str (shw (stA w))), g6, g7, g8] ∧ Fs (wrest w l h) [] M) ?_ ?_
  · simp! []
    refine d_joinsright hM hcut hbc hbd hcd tb tc td fun M1 h1 => ?_
    simp! []
    refine d_papersright h1 hcut hbc tb tc fun M2 h2 => ?_
    simp! []
    first | exact ⟨rfl, h2⟩ | exact h2
  rintro _ M ⟨rfl, hM⟩
  simp! [e_tops]
  refine d_tops hM hw hl (all_closed hw) (by omega) fun M1 h1 => ?_
  refine ⟨by simp, ?_⟩
  rw [hrep2, wpR_ok]
  simp! []
  first | done | simp
end K16

open PySem PySem.W PyProof.Rows
set_option maxRecDepth 100000 in
set_option maxHeartbeats 0 in
theorem PySem.Challenge.cw_marginwords_k16_refusals_apart_holds : PySem.Challenge.rw_marginwords_k16_refusals_apart.Holds := by
  w_on; o_law; k_head; (case hw => w_witness2)
  k_fill
  refine Mx.walk_mxT (l := PySem.Challenge.rw_marginwords_k16_refusals_apart) (k := 9) (x := "_law_script") (m := K16.m_law) rfl rfl ⟨rfl, by decide, by decide⟩ (by intro y hy; unfold Mx.tbNames at hy; simp only [List.mem_cons, List.not_mem_nil, or_false] at hy; rcases hy with rfl | rfl | rfl <;> kernel_rfl) (fun w h Y => PySem.W.km_in_of Y) K16.law_ok ?F
  case F =>
    intro w mg fa h KX G hmg
    refine' K16.all_mk KX G hmg ?a0 ?l0 ?c0 ?k0 ?a1 ?l1 ?c1 ?k1 ?a2 ?l2 ?c2 ?k2 ?a3 ?l3 ?c3 ?k3 ?a4 ?l4 ?c4 ?k4 ?a5 ?l5 ?c5 ?k5 ?a6 ?l6 ?c6 ?k6 ?a7 ?l7 ?c7 ?k7 ?a8 ?l8 ?c8 ?k8 ?a9 ?l9 ?c9 ?k9 ?a10 ?l10 ?c10 ?k10 ?a11 ?l11 ?c11 ?k11 ?a12 ?l12 ?c12 ?k12 ?a13 ?l13 ?c13 ?k13 ?a14 ?l14 ?c14 ?k14 ?a15 ?l15 ?c15 ?k15 ?a16 ?l16 ?c16 ?k16 ?a17 ?l17 ?c17 ?k17 ?a18 ?l18 ?c18 ?k18 ?a19 ?l19 ?c19 ?k19 ?a20 ?l20 ?c20 ?k20 ?a21 ?l21 ?c21 ?k21 ?a22 ?l22 ?c22 ?k22 ?a23 ?l23 ?c23 ?k23 ?aC24 ?xL24 ?sa24 ?eC24 ?tC24 ?kC24 ?ga24 ?gg24 ?hd24 ?ha24 ?hn24 ?ht24 ?hm24 ?a124 ?t124 ?l34 ?c34 ?k34 ?no24_word ?no24_at ?aC25 ?xL25 ?sa25 ?eC25 ?tC25 ?kC25 ?ga25 ?gg25 ?hd25 ?ha25 ?hn25 ?ht25 ?hm25 ?a125 ?t125 ?l35 ?c35 ?k35 ?no25_name ?no25_word ?aC26 ?xL26 ?sa26 ?eC26 ?tC26 ?kC26 ?ga26 ?gg26 ?hd26 ?ha26 ?hn26 ?ht26 ?hm26 ?a126 ?t126 ?l36 ?c36 ?k36 ?no26_name ?nA27 ?nB27 ?nC27 ?nD27 ?nA24 ?nB24 ?nC24 ?nD24 ?nA28 ?nB28 ?nC28 ?nD28 ?nA25 ?nB25 ?nC25 ?nD25 ?nA26 ?nB26 ?nC26 ?nD26 ?nA29 ?nB29 ?nC29 ?nD29 ?nA30 ?nB30 ?nC30 ?nD30 ?nA31 ?nB31 ?nC31 ?nD31 ?nA32 ?nB32 ?nC32 ?nD32 ?nA33 ?nB33 ?nC33 ?nD33 ?bA27 ?bB27 ?bC27 ?p_NoJoin_MarginError ?p_NoJoin_NoBase ?p_NoJoin_NoBranch ?p_NoJoin_NoChange ?p_NoJoin_NoJoin ?p_NoJoin_NoName ?p_NoJoin_NoPaper ?p_NoJoin_NoRow ?p_NoJoin_NoStrike ?p_NoJoin_NoText ?p_NoJoin_ValueError ?p_NoName_MarginError ?p_NoName_NoBase ?p_NoName_NoBranch ?p_NoName_NoChange ?p_NoName_NoJoin ?p_NoName_NoName ?p_NoName_NoPaper ?p_NoName_NoRow ?p_NoName_NoStrike ?p_NoName_NoText ?p_NoName_ValueError ?p_NoPaper_MarginError ?p_NoPaper_NoBase ?p_NoPaper_NoBranch ?p_NoPaper_NoChange ?p_NoPaper_NoJoin ?p_NoPaper_NoName ?p_NoPaper_NoPaper ?p_NoPaper_NoRow ?p_NoPaper_NoStrike ?p_NoPaper_NoText ?p_NoPaper_ValueError ?z_ValueError ?z_bool ?z_enumerate ?z_int ?z_isinstance ?z_len ?z_list ?z_max ?z_min ?z_range ?z_repr ?z_reversed ?z_set ?z_sorted ?z_tuple ?hcT0 ?lT0 ?vT0 ?nT0 ?hcT1 ?lT1 ?vT1 ?nT1 ?hcT2 ?lT2 ?vT2 ?nT2 ?dT0_1 ?dT0_2 ?dT1_2
    (case a0 => k_is)
    (case l0 => k_is)
    (case c0 => k_is)
    (case k0 => k_is)
    (case a1 => k_is)
    (case l1 => k_is)
    (case c1 => k_is)
    (case k1 => k_is)
    (case a2 => k_is)
    (case l2 => k_is)
    (case c2 => k_is)
    (case k2 => k_is)
    (case a3 => k_is)
    (case l3 => k_is)
    (case c3 => k_is)
    (case k3 => k_is)
    (case a4 => k_is)
    (case l4 => k_is)
    (case c4 => k_is)
    (case k4 => k_is)
    (case a5 => k_is)
    (case l5 => k_is)
    (case c5 => k_is)
    (case k5 => k_is)
    (case a6 => k_is)
    (case l6 => k_is)
    (case c6 => k_is)
    (case k6 => k_is)
    (case a7 => k_is)
    (case l7 => k_is)
    (case c7 => k_is)
    (case k7 => k_is)
    (case a8 => k_is)
    (case l8 => k_is)
    (case c8 => k_is)
    (case k8 => k_is)
    (case a9 => k_is)
    (case l9 => k_is)
    (case c9 => k_is)
    (case k9 => k_is)
    (case a10 => k_is)
    (case l10 => k_is)
    (case c10 => k_is)
    (case k10 => k_is)
    (case a11 => k_is)
    (case l11 => k_is)
    (case c11 => k_is)
    (case k11 => k_is)
    (case a12 => k_is)
    (case l12 => k_is)
    (case c12 => k_is)
    (case k12 => k_is)
    (case a13 => k_is)
    (case l13 => k_is)
    (case c13 => k_is)
    (case k13 => k_is)
    (case a14 => k_is)
    (case l14 => k_is)
    (case c14 => k_is)
    (case k14 => k_is)
    (case a15 => k_is)
    (case l15 => k_is)
    (case c15 => k_is)
    (case k15 => k_is)
    (case a16 => k_is)
    (case l16 => k_is)
    (case c16 => k_is)
    (case k16 => k_is)
    (case a17 => k_is)
    (case l17 => k_is)
    (case c17 => k_is)
    (case k17 => k_is)
    (case a18 => k_is)
    (case l18 => k_is)
    (case c18 => k_is)
    (case k18 => k_is)
    (case a19 => k_is)
    (case l19 => k_is)
    (case c19 => k_is)
    (case k19 => k_is)
    (case a20 => k_is)
    (case l20 => k_is)
    (case c20 => k_is)
    (case k20 => k_is)
    (case a21 => k_is)
    (case l21 => k_is)
    (case c21 => k_is)
    (case k21 => k_is)
    (case a22 => k_is)
    (case l22 => k_is)
    (case c22 => k_is)
    (case k22 => k_is)
    (case a23 => k_is)
    (case l23 => k_is)
    (case c23 => k_is)
    (case k23 => k_is)
    (case aC24 => k_is)
    (case xL24 => k_is)
    (case sa24 => k_is)
    (case eC24 => k_is)
    (case tC24 => k_is)
    (case kC24 => k_is)
    (case ga24 => k_is)
    (case gg24 => k_is)
    (case hd24 => k_is)
    (case ha24 => k_is)
    (case hn24 => k_is)
    (case ht24 => k_is)
    (case hm24 => k_is)
    (case a124 => k_is)
    (case t124 => k_is)
    (case l34 => k_is)
    (case c34 => k_is)
    (case k34 => k_is)
    (case no24_word => k_is)
    (case no24_at => k_is)
    (case aC25 => k_is)
    (case xL25 => k_is)
    (case sa25 => k_is)
    (case eC25 => k_is)
    (case tC25 => k_is)
    (case kC25 => k_is)
    (case ga25 => k_is)
    (case gg25 => k_is)
    (case hd25 => k_is)
    (case ha25 => k_is)
    (case hn25 => k_is)
    (case ht25 => k_is)
    (case hm25 => k_is)
    (case a125 => k_is)
    (case t125 => k_is)
    (case l35 => k_is)
    (case c35 => k_is)
    (case k35 => k_is)
    (case no25_name => k_is)
    (case no25_word => k_is)
    (case aC26 => k_is)
    (case xL26 => k_is)
    (case sa26 => k_is)
    (case eC26 => k_is)
    (case tC26 => k_is)
    (case kC26 => k_is)
    (case ga26 => k_is)
    (case gg26 => k_is)
    (case hd26 => k_is)
    (case ha26 => k_is)
    (case hn26 => k_is)
    (case ht26 => k_is)
    (case hm26 => k_is)
    (case a126 => k_is)
    (case t126 => k_is)
    (case l36 => k_is)
    (case c36 => k_is)
    (case k36 => k_is)
    (case no26_name => k_is)
    (case nA27 => k_is)
    (case nB27 => k_is)
    (case nC27 => k_is)
    (case nD27 => k_is)
    (case nA24 => k_is)
    (case nB24 => k_is)
    (case nC24 => k_is)
    (case nD24 => k_is)
    (case nA28 => k_is)
    (case nB28 => k_is)
    (case nC28 => k_is)
    (case nD28 => k_is)
    (case nA25 => k_is)
    (case nB25 => k_is)
    (case nC25 => k_is)
    (case nD25 => k_is)
    (case nA26 => k_is)
    (case nB26 => k_is)
    (case nC26 => k_is)
    (case nD26 => k_is)
    (case nA29 => k_is)
    (case nB29 => k_is)
    (case nC29 => k_is)
    (case nD29 => k_is)
    (case nA30 => k_is)
    (case nB30 => k_is)
    (case nC30 => k_is)
    (case nD30 => k_is)
    (case nA31 => k_is)
    (case nB31 => k_is)
    (case nC31 => k_is)
    (case nD31 => k_is)
    (case nA32 => k_is)
    (case nB32 => k_is)
    (case nC32 => k_is)
    (case nD32 => k_is)
    (case nA33 => k_is)
    (case nB33 => k_is)
    (case nC33 => k_is)
    (case nD33 => k_is)
    (case bA27 => k_is)
    (case bB27 => k_is)
    (case bC27 => k_is)
    (case p_NoJoin_MarginError => k_is)
    (case p_NoJoin_NoBase => k_is)
    (case p_NoJoin_NoBranch => k_is)
    (case p_NoJoin_NoChange => k_is)
    (case p_NoJoin_NoJoin => k_is)
    (case p_NoJoin_NoName => k_is)
    (case p_NoJoin_NoPaper => k_is)
    (case p_NoJoin_NoRow => k_is)
    (case p_NoJoin_NoStrike => k_is)
    (case p_NoJoin_NoText => k_is)
    (case p_NoJoin_ValueError => k_is)
    (case p_NoName_MarginError => k_is)
    (case p_NoName_NoBase => k_is)
    (case p_NoName_NoBranch => k_is)
    (case p_NoName_NoChange => k_is)
    (case p_NoName_NoJoin => k_is)
    (case p_NoName_NoName => k_is)
    (case p_NoName_NoPaper => k_is)
    (case p_NoName_NoRow => k_is)
    (case p_NoName_NoStrike => k_is)
    (case p_NoName_NoText => k_is)
    (case p_NoName_ValueError => k_is)
    (case p_NoPaper_MarginError => k_is)
    (case p_NoPaper_NoBase => k_is)
    (case p_NoPaper_NoBranch => k_is)
    (case p_NoPaper_NoChange => k_is)
    (case p_NoPaper_NoJoin => k_is)
    (case p_NoPaper_NoName => k_is)
    (case p_NoPaper_NoPaper => k_is)
    (case p_NoPaper_NoRow => k_is)
    (case p_NoPaper_NoStrike => k_is)
    (case p_NoPaper_NoText => k_is)
    (case p_NoPaper_ValueError => k_is)
    (case z_ValueError => k_is)
    (case z_bool => k_is)
    (case z_enumerate => k_is)
    (case z_int => k_is)
    (case z_isinstance => k_is)
    (case z_len => k_is)
    (case z_list => k_is)
    (case z_max => k_is)
    (case z_min => k_is)
    (case z_range => k_is)
    (case z_repr => k_is)
    (case z_reversed => k_is)
    (case z_set => k_is)
    (case z_sorted => k_is)
    (case z_tuple => k_is)
    (case hcT0 => rfl)
    (case lT0 => k_is)
    (case vT0 => rfl)
    (case nT0 => kernel_rfl)
    (case hcT1 => rfl)
    (case lT1 => k_is)
    (case vT1 => rfl)
    (case nT1 => kernel_rfl)
    (case hcT2 => rfl)
    (case lT2 => k_is)
    (case vT2 => rfl)
    (case nT2 => kernel_rfl)
    (case dT0_1 => decide)
    (case dT0_2 => decide)
    (case dT1_2 => decide)
