import PyProof.Rows.All
import Wide.All
import OpenK.AllK
import Wide.FinOn
import PySem.Challenge.RW_clauseshrink_k72_claims_that_are_none
import HandS.ForMost
import HandS.ForExc
import HandS.Walk
import HandS.IsInst
import HandS.TupAny
import HandS.Style
import HandS.Deep
import HandS.SetIn
import HandS.NoneIn
import HandS.TryOnly
import HandS.CallSlots
import HandS.Words
import HandS.Defaults
import HandS.WordsExc
import HandS.Small
import HandS.Flow
import HandS.DictComp
import HandS.SetBool
import HandS.Strs
import HandS.Conv
import HandS.SortKw
import KE.SortData
import KE.SortKeyHeap
import HandS.Iter
import HandS.Zip
import KE.GoesMore
import HandS.TupMul
import KE.KDictCopyH
import KE.KDictOf
import PyProof.MinMaxWalk
import PyProof.WalkInts
import KE.KUnpackStar
import PyProof.ReprLen
import HandS.Ends
import HandS.HeadEnd
import HandS.More
import HandS.CallLocal
import HandS.OwnEq
import PyProof.NeKinds
import PyProof.ReprReads
import HandS.FStr
import HandS.Text
import HandS.Codes
import KE.KCallOwn
import HandS.HeadHook2
import HandS.HeadHook3
import HandS.HeadHook4
import HandS.Head2
set_option Elab.async false
set_option linter.all false
set_option maxRecDepth 100000
set_option maxHeartbeats 4000000
/-! The mirror's core: by-value data with a store of mutable objects, and how it stands for the hand layer's heap. -/
namespace MM
open PySem PySem.Spec PyProof.Rows L2

/-! ### data -/
inductive AV where
  | non
  | bl (b : Bool)
  | int (i : Int)
  | str (x : Str)
  | tup (xs : List AV)
  | ktup (xs : List AV)
  | lst (xs : List AV)
  | dk (kvs : List (Key × AV))
  | dt (kvs : List (List Key × AV))
  | ins (C : String) (fs : List (String × AV))
  | ptr (n : Nat)
  | glo (x : String)
  | ty (n : String)

inductive Ob where
  | lst (xs : List AV)
  | dk (kvs : List (Key × AV))
  | dt (kvs : List (List Key × AV))
  | ins (C : String) (fs : List (String × AV))

/-- an exception: its class by its name, the fields of its own dict -/
structure Exn where
  cls : String
  fs : Option (List (String × AV))

/-- where our objects stand: m those of the store, h hidden ones (a list that a comprehension makes) -/
structure Rho where
  m : List Addr
  h : List Addr
def Rho.has (ρ : Rho) (a : Addr) : Prop := a ∈ ρ.m ∨ a ∈ ρ.h
def Rho.add (ρ : Rho) (p : Addr) : Rho := ⟨ρ.m ++ [p], ρ.h⟩
def Rho.hide (ρ : Rho) (p : Addr) : Rho := ⟨ρ.m, p :: ρ.h⟩
abbrev Fr := List (Option AV)
abbrev Sto := List Ob

inductive R (α : Type) where
  | ok (a : α) (st : Sto)
  | exc (e : Exn) (st : Sto)
  | stuck
abbrev M (α : Type) := Sto → R α
def R.bind {α β : Type} : R α → (α → Sto → R β) → R β
  | .ok a st, f => f a st
  | .exc e st, _ => .exc e st
  | .stuck, _ => .stuck
@[simp] theorem R.bind_ok {α β : Type} (a : α) (st : Sto) (f : α → Sto → R β) : (R.ok a st).bind f = f a st := rfl
@[simp] theorem R.bind_exc {α β : Type} (e : Exn) (st : Sto) (f : α → Sto → R β) : (R.exc e st : R α).bind f = .exc e st := rfl
@[simp] theorem R.bind_stuck {α β : Type} (f : α → Sto → R β) : (R.stuck : R α).bind f = .stuck := rfl

/-- what stands: the written part; the addresses of the module's names -/
structure MC where
  K : PySem.W.Frag
  G : String → Option Addr

/-- a tuple of the written part -/
def KTup (K : PySem.W.Frag) (a : Addr) (xs : List V) : Prop := ∃ (o : Obj) (its : Array Value) (n : Nat), K.lookup a = some o ∧ o.cls = .type "tuple" ∧ o.data = .seq its n ∧ its.size ≤ sizeLine ∧ Vals xs its.toList
theorem KTup.sq {K : PySem.W.Frag} {H : Hp} {a : Addr} {xs : List V} (h : KTup K a xs) : SqT K H a xs := .inr h
/-! ### how data stands for values -/
mutual
inductive VR (c : MC) (ρ : Rho) (H : Hp) : AV → V → Prop
  | non : VR c ρ H .non .non
  | bl (b : Bool) : VR c ρ H (.bl b) (.bl b)
  | int (i : Int) : VR c ρ H (.int i) (.int i)
  | str (x : Str) : VR c ρ H (.str x) (.str x)
  | ty (n : String) : VR c ρ H (.ty n) (.ty n)
  | tup {a : Addr} {xs : List AV} {vs : List V} (h : H a = some (.tup vs)) (r : VRs c ρ H xs vs) : VR c ρ H (.tup xs) (.ref a)
  | ktup {a : Addr} {xs : List AV} {vs : List V} (h : KTup c.K a vs) (r : VRs c ρ H xs vs) : VR c ρ H (.ktup xs) (.ref a)
  | lst {a : Addr} {xs : List AV} {vs : List V} (h : Rd H a (.lst vs)) (n : ¬ ρ.has a) (r : VRs c ρ H xs vs) : VR c ρ H (.lst xs) (.ref a)
  | dk {a : Addr} {xs : List (Key × AV)} {vs : List (Key × V)} (h : Rd H a (.dK vs)) (n : ¬ ρ.has a) (r : VRk c ρ H xs vs) : VR c ρ H (.dk xs) (.ref a)
  | dt {a : Addr} {xs : List (List Key × AV)} {vs : List (List Key × V)} (h : Rd H a (.dT vs)) (n : ¬ ρ.has a) (r : VRt c ρ H xs vs) : VR c ρ H (.dt xs) (.ref a)
  | ins {x : String} {a C dx : Addr} {fs : List (String × AV)} {vs : List (Str × V)} (g : c.G x = some C) (h : H a = some (.ins C dx vs)) (n : ¬ ρ.has a) (r : VRf c ρ H fs vs) : VR c ρ H (.ins x fs) (.ref a)
  | ptr {n : Nat} {a : Addr} (h : ρ.m[n]? = some a) : VR c ρ H (.ptr n) (.ref a)
  | glo {x : String} {a : Addr} (h : c.G x = some a) : VR c ρ H (.glo x) (.ref a)
inductive VRs (c : MC) (ρ : Rho) (H : Hp) : List AV → List V → Prop
  | nil : VRs c ρ H [] []
  | cons {x : AV} {v : V} {xs : List AV} {vs : List V} (h : VR c ρ H x v) (r : VRs c ρ H xs vs) : VRs c ρ H (x :: xs) (v :: vs)
inductive VRk (c : MC) (ρ : Rho) (H : Hp) : List (Key × AV) → List (Key × V) → Prop
  | nil : VRk c ρ H [] []
  | cons {k : Key} {x : AV} {v : V} {xs : List (Key × AV)} {vs : List (Key × V)} (h : VR c ρ H x v) (r : VRk c ρ H xs vs) : VRk c ρ H ((k, x) :: xs) ((k, v) :: vs)
inductive VRt (c : MC) (ρ : Rho) (H : Hp) : List (List Key × AV) → List (List Key × V) → Prop
  | nil : VRt c ρ H [] []
  | cons {k : List Key} {x : AV} {v : V} {xs : List (List Key × AV)} {vs : List (List Key × V)} (h : VR c ρ H x v) (r : VRt c ρ H xs vs) : VRt c ρ H ((k, x) :: xs) ((k, v) :: vs)
inductive VRf (c : MC) (ρ : Rho) (H : Hp) : List (String × AV) → List (Str × V) → Prop
  | nil : VRf c ρ H [] []
  | cons {k : String} {x : AV} {v : V} {xs : List (String × AV)} {vs : List (Str × V)} (h : VR c ρ H x v) (r : VRf c ρ H xs vs) : VRf c ρ H ((k, x) :: xs) ((Str.ofString k, v) :: vs)
end
inductive OR (c : MC) (ρ : Rho) (H : Hp) : Ob → HO → Prop
  | lst {xs : List AV} {vs : List V} (r : VRs c ρ H xs vs) : OR c ρ H (.lst xs) (.lst vs)
  | dk {xs : List (Key × AV)} {vs : List (Key × V)} (r : VRk c ρ H xs vs) : OR c ρ H (.dk xs) (.dK vs)
  | dt {xs : List (List Key × AV)} {vs : List (List Key × V)} (r : VRt c ρ H xs vs) : OR c ρ H (.dt xs) (.dT vs)
  | ins {x : String} {C dx : Addr} {fs : List (String × AV)} {vs : List (Str × V)} (g : c.G x = some C) (r : VRf c ρ H fs vs) : OR c ρ H (.ins x fs) (.ins C dx vs)
def ExR (c : MC) (ρ : Rho) (e : Exn) (cl : Value) (d : Option Addr) (H : Hp) : Prop :=
  ∃ C, c.G e.cls = some C ∧ cl = .ref C ∧ match e.fs, d with
    | none, none => True
    | some fs, some a => ∃ vs, H a = some (.xd vs) ∧ VRf c ρ H fs vs
    | _, _ => False

/-! ### steps -/
structure Stp (ρ : Rho) (H : Hp) (ρ' : Rho) (H' : Hp) : Prop where
  ext : ∃ new : List Addr, ρ'.m = ρ.m ++ new ∧ ∀ a ∈ new, H a = none
  sub : ∀ a ∈ ρ.h, a ∈ ρ'.h
  hid : ∀ a ∈ ρ'.h, a ∈ ρ.h ∨ H a = none
  keep : ∀ a u, a ∉ ρ.m → H a = some u → H' a = some u
  tups : ∀ a vs, H a = some (.tup vs) → H' a = some (.tup vs)
  live : ∀ a, H a ≠ none → H' a ≠ none

theorem rd_some {H : Hp} {a : Addr} {u : HO} (h : Rd H a u) : H a ≠ none := by
  rcases h with h | ⟨o, h⟩ <;> simp [h]
theorem rd_upd {H : Hp} {a p : Addr} {u o : HO} (h : Rd H a u) (n : a ≠ p) : Rd (upd H p o) a u := by
  rcases h with h | ⟨z, h⟩
  · exact .inl (by rw [upd_ne n]; exact h)
  · exact .inr ⟨z, by rw [upd_ne n]; exact h⟩
theorem live_upd {H : Hp} {p : Addr} {o : HO} (a : Addr) (z : H a ≠ none) : upd H p o a ≠ none := by
  by_cases e : a = p
  · subst e; rw [upd_same]; simp
  · rw [upd_ne e]; exact z
theorem Stp.rd {ρ ρ' : Rho} {H H' : Hp} (s : Stp ρ H ρ' H') {a : Addr} {u : HO} (n : a ∉ ρ.m) (h : Rd H a u) : Rd H' a u := by
  rcases h with h | ⟨z, h⟩
  · exact .inl (s.keep _ _ n h)
  · exact .inr ⟨z, s.keep _ _ n h⟩
theorem Stp.refl (ρ : Rho) (H : Hp) : Stp ρ H ρ H := ⟨⟨[], by simp, fun _ h => by simp at h⟩, fun _ h => h, fun _ h => .inl h, fun _ _ _ h => h, fun _ _ h => h, fun _ h => h⟩
theorem Stp.outm {ρ ρ' : Rho} {H H' : Hp} (s : Stp ρ H ρ' H') {a : Addr} (h : a ∉ ρ.m) (r : H a ≠ none) : a ∉ ρ'.m := by
  obtain ⟨new, e, hn⟩ := s.ext
  intro hm
  rw [e] at hm
  rcases List.mem_append.mp hm with hm | hm
  · exact h hm
  · exact r (hn a hm)
theorem Stp.out {ρ ρ' : Rho} {H H' : Hp} (s : Stp ρ H ρ' H') {a : Addr} (h : ¬ ρ.has a) (r : H a ≠ none) : ¬ ρ'.has a := by
  intro hm
  rcases hm with hm | hm
  · exact s.outm (fun z => h (.inl z)) r hm
  · rcases s.hid a hm with z | z
    · exact h (.inr z)
    · exact r z
theorem Stp.trans {ρ ρ1 ρ2 : Rho} {H H1 H2 : Hp} (a : Stp ρ H ρ1 H1) (b : Stp ρ1 H1 ρ2 H2) : Stp ρ H ρ2 H2 := by
  have back : ∀ x, H1 x = none → H x = none := fun x e => by
    cases q : H x with
    | none => rfl
    | some u => exact absurd e (a.live x (by rw [q]; simp))
  refine ⟨?_, fun x h => b.sub x (a.sub x h), fun x h => ?_, fun x u hx hr => b.keep x u (a.outm hx (by rw [hr]; simp)) (a.keep x u hx hr), fun x vs h => b.tups x vs (a.tups x vs h), fun x h => b.live x (a.live x h)⟩
  · obtain ⟨n1, e1, h1⟩ := a.ext
    obtain ⟨n2, e2, h2⟩ := b.ext
    refine ⟨n1 ++ n2, by rw [e2, e1, List.append_assoc], fun x hx => ?_⟩
    rcases List.mem_append.mp hx with hx | hx
    · exact h1 x hx
    · exact back x (h2 x hx)
  · rcases b.hid x h with z | z
    · exact a.hid x z
    · exact .inr (back x z)
/-- the tracked heap grows by what is not ours -/
theorem Stp.tmp {ρ : Rho} {H : Hp} {p : Addr} {o : HO} (h : H p = none) : Stp ρ H ρ (upd H p o) :=
  ⟨⟨[], by simp, fun _ z => by simp at z⟩, fun _ z => z, fun _ z => .inl z, fun a u _ r => by rw [upd_ne (ne_of_none r h)]; exact r, fun a u r => by rw [upd_ne (ne_of_none r h)]; exact r, live_upd⟩
theorem Stp.new {ρ : Rho} {H : Hp} {p : Addr} {o : HO} (h : H p = none) : Stp ρ H (ρ.add p) (upd H p o) :=
  ⟨⟨[p], rfl, fun a z => by rw [List.mem_singleton.mp z]; exact h⟩, fun _ z => z, fun _ z => .inl z, (Stp.tmp (ρ := ρ) h).keep, (Stp.tmp (ρ := ρ) h).tups, live_upd⟩
theorem Stp.hide {ρ : Rho} {H : Hp} {p : Addr} {o : HO} (h : H p = none) : Stp ρ H (ρ.hide p) (upd H p o) :=
  ⟨⟨[], by simp [Rho.hide], fun _ z => by simp at z⟩, fun _ z => List.mem_cons_of_mem _ z, fun a z => by
    rcases List.mem_cons.mp z with z | z
    · exact .inr (z ▸ h)
    · exact .inl z, (Stp.tmp (ρ := ρ) h).keep, (Stp.tmp (ρ := ρ) h).tups, live_upd⟩
theorem Stp.put {ρ : Rho} {H : Hp} {p : Addr} {o : HO} (h : p ∈ ρ.m) (nt : ∀ vs, H p ≠ some (.tup vs)) : Stp ρ H ρ (upd H p o) :=
  ⟨⟨[], by simp, fun _ z => by simp at z⟩, fun _ z => z, fun _ z => .inl z, fun a u n r => by rw [upd_ne (show a ≠ p from fun e => n (e ▸ h))]; exact r, fun a u r => by rw [upd_ne (show a ≠ p from fun e => nt u (by rw [← e]; exact r))]; exact r, live_upd⟩
/-- without a hidden one -/
def Rho.drop (ρ : Rho) (p : Addr) : Rho := ⟨ρ.m, ρ.h.filter fun a => decide (a ≠ p)⟩
theorem drop_has {ρ : Rho} {p a : Addr} (h : ¬ ρ.has a) : ¬ (ρ.drop p).has a := fun z => by
  rcases z with z | z
  · exact h (.inl z)
  · exact h (.inr (List.mem_filter.mp z).1)
theorem Stp.drop {ρ ρ' : Rho} {H H' : Hp} {p : Addr} (s : Stp ρ H ρ' H') (h : H p = none) (n : p ∉ ρ.h) : Stp ρ H (ρ'.drop p) H' :=
  ⟨s.ext, fun a ha => List.mem_filter.mpr ⟨s.sub a ha, decide_eq_true (show a ≠ p from fun e => n (e ▸ ha))⟩, fun a ha => s.hid a (List.mem_filter.mp ha).1, s.keep, s.tups, s.live⟩
/-- a hidden new one is changed -/
theorem Stp.poke {ρ ρ' : Rho} {H H' : Hp} {p : Addr} {o : HO} (s : Stp ρ H ρ' H') (h : H p = none) : Stp ρ H ρ' (upd H' p o) :=
  ⟨s.ext, s.sub, s.hid, fun a u n r => by rw [upd_ne (ne_of_none r h)]; exact s.keep a u n r, fun a u r => by rw [upd_ne (ne_of_none r h)]; exact s.tups a u r, fun a z => live_upd a (s.live a z)⟩
theorem get_stp {ρ ρ' : Rho} {H H' : Hp} (s : Stp ρ H ρ' H') {n : Nat} {a : Addr} (h : ρ.m[n]? = some a) : ρ'.m[n]? = some a := by
  obtain ⟨new, e, _⟩ := s.ext
  rw [e, List.getElem?_append_left (List.getElem?_eq_some_iff.mp h).1]
  exact h
/-- a step in which hidden things may change, too -/
structure Stw (ρ : Rho) (H : Hp) (ρ' : Rho) (H' : Hp) : Prop where
  ext : ∃ new : List Addr, ρ'.m = ρ.m ++ new ∧ ∀ a ∈ new, H a = none
  hid : ∀ a ∈ ρ'.h, a ∈ ρ.h ∨ H a = none
  keep : ∀ a u, ¬ ρ.has a → H a = some u → H' a = some u
  tups : ∀ a vs, H a = some (.tup vs) → H' a = some (.tup vs)
theorem Stp.w {ρ ρ' : Rho} {H H' : Hp} (s : Stp ρ H ρ' H') : Stw ρ H ρ' H' := ⟨s.ext, s.hid, fun a u n e => s.keep a u (fun z => n (.inl z)) e, s.tups⟩
theorem Stw.rd {ρ ρ' : Rho} {H H' : Hp} (s : Stw ρ H ρ' H') {a : Addr} {u : HO} (n : ¬ ρ.has a) (h : Rd H a u) : Rd H' a u := by
  rcases h with h | ⟨z, h⟩
  · exact .inl (s.keep _ _ n h)
  · exact .inr ⟨z, s.keep _ _ n h⟩
theorem Stw.out {ρ ρ' : Rho} {H H' : Hp} (s : Stw ρ H ρ' H') {a : Addr} (h : ¬ ρ.has a) (r : H a ≠ none) : ¬ ρ'.has a := by
  intro hm
  rcases hm with hm | hm
  · obtain ⟨new, e, hn⟩ := s.ext
    rw [e] at hm
    rcases List.mem_append.mp hm with hm | hm
    · exact h (.inl hm)
    · exact r (hn a hm)
  · rcases s.hid a hm with z | z
    · exact h (.inr z)
    · exact r z
theorem get_stw {ρ ρ' : Rho} {H H' : Hp} (s : Stw ρ H ρ' H') {n : Nat} {a : Addr} (h : ρ.m[n]? = some a) : ρ'.m[n]? = some a := by
  obtain ⟨new, e, _⟩ := s.ext
  rw [e, List.getElem?_append_left (List.getElem?_eq_some_iff.mp h).1]
  exact h
/-- a hidden one is changed -/
theorem Stw.poke {ρ ρ' : Rho} {H H' : Hp} {p : Addr} {o : HO} (s : Stw ρ H ρ' H') (h : p ∈ ρ.h) (nt : ∀ vs, H p ≠ some (.tup vs)) : Stw ρ H ρ' (upd H' p o) :=
  ⟨s.ext, s.hid, fun a u n e => by rw [upd_ne (show a ≠ p from fun z => n (.inr (z ▸ h)))]; exact s.keep a u n e, fun a vs e => by rw [upd_ne (show a ≠ p from fun z => nt vs (z ▸ e))]; exact s.tups a vs e⟩
theorem Stw.stp {ρ ρ1 ρ2 : Rho} {H H1 H2 : Hp} (a : Stw ρ H ρ1 H1) (b : Stp ρ1 H1 ρ2 H2) (lv : ∀ x, H x ≠ none → H1 x ≠ none) : Stw ρ H ρ2 H2 := by
  have back : ∀ x, H1 x = none → H x = none := fun x e => by
    cases q : H x with
    | none => rfl
    | some u => exact absurd e (lv x (by rw [q]; simp))
  refine ⟨?_, fun x h => ?_, fun x u hx hr => ?_, fun x vs h => b.tups x vs (a.tups x vs h)⟩
  · obtain ⟨n1, e1, h1⟩ := a.ext
    obtain ⟨n2, e2, h2⟩ := b.ext
    refine ⟨n1 ++ n2, by rw [e2, e1, List.append_assoc], fun x hx => ?_⟩
    rcases List.mem_append.mp hx with hx | hx
    · exact h1 x hx
    · exact back x (h2 x hx)
  · rcases b.hid x h with z | z
    · exact a.hid x z
    · exact .inr (back x z)
  · have o := a.out hx (by rw [hr]; simp)
    exact b.keep x u (fun z => o (.inl z)) (a.keep x u hx hr)
section
variable {c : MC} {ρ ρ' : Rho} {H H' : Hp}
mutual
theorem VR.monoW (s : Stw ρ H ρ' H') : ∀ {x : AV} {v : V}, VR c ρ H x v → VR c ρ' H' x v
  | _, _, .non => .non
  | _, _, .bl b => .bl b
  | _, _, .int i => .int i
  | _, _, .str x => .str x
  | _, _, .ty n => .ty n
  | _, _, .tup h r => .tup (s.tups _ _ h) (VRs.monoW s r)
  | _, _, .ktup h r => .ktup h (VRs.monoW s r)
  | _, _, .lst h n r => .lst (s.rd n h) (s.out n (rd_some h)) (VRs.monoW s r)
  | _, _, .dk h n r => .dk (s.rd n h) (s.out n (rd_some h)) (VRk.monoW s r)
  | _, _, .dt h n r => .dt (s.rd n h) (s.out n (rd_some h)) (VRt.monoW s r)
  | _, _, .ins g h n r => .ins g (s.keep _ _ n h) (s.out n (by rw [h]; simp)) (VRf.monoW s r)
  | _, _, .ptr h => .ptr (get_stw s h)
  | _, _, .glo h => .glo h
theorem VRs.monoW (s : Stw ρ H ρ' H') : ∀ {x : List AV} {v : List V}, VRs c ρ H x v → VRs c ρ' H' x v
  | _, _, .nil => .nil
  | _, _, .cons h r => .cons (VR.monoW s h) (VRs.monoW s r)
theorem VRk.monoW (s : Stw ρ H ρ' H') : ∀ {x : List (Key × AV)} {v : List (Key × V)}, VRk c ρ H x v → VRk c ρ' H' x v
  | _, _, .nil => .nil
  | _, _, .cons h r => .cons (VR.monoW s h) (VRk.monoW s r)
theorem VRt.monoW (s : Stw ρ H ρ' H') : ∀ {x : List (List Key × AV)} {v : List (List Key × V)}, VRt c ρ H x v → VRt c ρ' H' x v
  | _, _, .nil => .nil
  | _, _, .cons h r => .cons (VR.monoW s h) (VRt.monoW s r)
theorem VRf.monoW (s : Stw ρ H ρ' H') : ∀ {x : List (String × AV)} {v : List (Str × V)}, VRf c ρ H x v → VRf c ρ' H' x v
  | _, _, .nil => .nil
  | _, _, .cons h r => .cons (VR.monoW s h) (VRf.monoW s r)
end
theorem VR.mono (s : Stp ρ H ρ' H') {x : AV} {v : V} (h : VR c ρ H x v) : VR c ρ' H' x v := h.monoW s.w
theorem VRs.mono (s : Stp ρ H ρ' H') {x : List AV} {v : List V} (h : VRs c ρ H x v) : VRs c ρ' H' x v := h.monoW s.w
theorem VRk.mono (s : Stp ρ H ρ' H') {x : List (Key × AV)} {v : List (Key × V)} (h : VRk c ρ H x v) : VRk c ρ' H' x v := h.monoW s.w
theorem VRt.mono (s : Stp ρ H ρ' H') {x : List (List Key × AV)} {v : List (List Key × V)} (h : VRt c ρ H x v) : VRt c ρ' H' x v := h.monoW s.w
theorem VRf.mono (s : Stp ρ H ρ' H') {x : List (String × AV)} {v : List (Str × V)} (h : VRf c ρ H x v) : VRf c ρ' H' x v := h.monoW s.w
theorem OR.mono (s : Stp ρ H ρ' H') {o : Ob} {u : HO} (h : OR c ρ H o u) : OR c ρ' H' o u := by
  cases h with
  | lst r => exact .lst (r.mono s)
  | dk r => exact .dk (r.mono s)
  | dt r => exact .dt (r.mono s)
  | ins g r => exact .ins g (r.mono s)
theorem OR.mut {o : Ob} {u : HO} (h : OR c ρ H o u) : Mut (some u) ∧ (∀ vs, u ≠ .tup vs) ∧ (∀ ob w, u ≠ .frz ob w) := by
  cases h <;> refine ⟨trivial, ?_, ?_⟩ <;> intros <;> exact HO.noConfusion

/-! ### a state of the mirror stands for a state of the layer -/
structure Rep (c : MC) (ρ : Rho) (fr : Fr) (st : Sto) (σ : L2.St) (H : Hp) : Prop where
  len : st.length = ρ.m.length
  fl : fr.length = σ.length
  fr : ∀ (i : Nat) (v : AV), fr[i]? = some (some v) → ∃ x, σ[i]? = some (some x) ∧ VR c ρ H v x
  inj : ∀ (i j : Nat) (a : Addr), ρ.m[i]? = some a → ρ.m[j]? = some a → i = j
  ob : ∀ (i : Nat) (o : Ob), st[i]? = some o → ∃ a u, ρ.m[i]? = some a ∧ H a = some u ∧ OR c ρ H o u
  hd : ∀ a ∈ ρ.h, H a ≠ none
section
variable {fr : Fr} {st : Sto} {σ : L2.St}
theorem Rep.at (r : Rep c ρ fr st σ H) {a : Addr} (h : a ∈ ρ.m) : ∃ (i : Nat) (o : Ob) (u : HO), ρ.m[i]? = some a ∧ st[i]? = some o ∧ H a = some u ∧ OR c ρ H o u := by
  obtain ⟨i, hi, rfl⟩ := List.getElem_of_mem h
  have h2 : i < st.length := by rw [r.len]; exact hi
  obtain ⟨a, u, e1, e2, e3⟩ := r.ob i st[i] (List.getElem?_eq_getElem h2)
  rw [List.getElem?_eq_getElem hi] at e1
  cases e1
  exact ⟨i, st[i], u, List.getElem?_eq_getElem hi, List.getElem?_eq_getElem h2, e2, e3⟩
theorem Rep.notin (r : Rep c ρ fr st σ H) {p : Addr} (h : H p = none) : ¬ ρ.has p := fun hm => by
  rcases hm with hm | hm
  · obtain ⟨_, _, _, _, _, e, _⟩ := r.at hm
    rw [h] at e; cases e
  · exact r.hd p hm h
/-- the heap changes outside of our objects -/
theorem Rep.grow (r : Rep c ρ fr st σ H) (s : Stp ρ H ρ H') (k : ∀ a ∈ ρ.m, H' a = H a) : Rep c ρ fr st σ H' :=
  ⟨r.len, r.fl, fun i v h => let ⟨x, e, q⟩ := r.fr i v h; ⟨x, e, q.mono s⟩, r.inj, fun i o h => let ⟨a, u, e1, e2, e3⟩ := r.ob i o h; ⟨a, u, e1, (k a (List.mem_of_getElem? e1)).trans e2, e3.mono s⟩, fun a ha => s.live a (r.hd a ha)⟩
theorem Rep.tmp (r : Rep c ρ fr st σ H) {p : Addr} {o : HO} (h : H p = none) : Rep c ρ fr st σ (upd H p o) :=
  r.grow (Stp.tmp h) fun a ha => upd_ne fun e => r.notin h (e ▸ .inl ha)
theorem Rep.new (r : Rep c ρ fr st σ H) {p : Addr} {o : Ob} {u : HO} (h : H p = none) (q : OR c ρ H o u) : Rep c (ρ.add p) fr (st ++ [o]) σ (upd H p u) := by
  have s := Stp.new (ρ := ρ) (o := u) h
  have hp : p ∉ ρ.m := fun z => r.notin h (.inl z)
  refine ⟨by simp [r.len, Rho.add], r.fl, fun i v hv => let ⟨x, e, q⟩ := r.fr i v hv; ⟨x, e, q.mono s⟩, fun i j a hi hj => ?_, fun i ob hi => ?_, fun a ha => live_upd a (r.hd a ha)⟩
  · simp only [Rho.add] at hi hj
    by_cases h1 : i < ρ.m.length
    · rw [List.getElem?_append_left h1] at hi
      by_cases h2 : j < ρ.m.length
      · rw [List.getElem?_append_left h2] at hj
        exact r.inj i j a hi hj
      · rw [List.getElem?_append_right (Nat.le_of_not_lt h2)] at hj
        have e : a = p := List.mem_singleton.mp (List.mem_of_getElem? hj)
        subst e
        exact absurd (List.mem_of_getElem? hi) hp
    · rw [List.getElem?_append_right (Nat.le_of_not_lt h1)] at hi
      have e : a = p := List.mem_singleton.mp (List.mem_of_getElem? hi)
      subst e
      by_cases h2 : j < ρ.m.length
      · rw [List.getElem?_append_left h2] at hj
        exact absurd (List.mem_of_getElem? hj) hp
      · rw [List.getElem?_append_right (Nat.le_of_not_lt h2)] at hj
        have e1 := (List.getElem?_eq_some_iff.mp hi).1
        have e2 := (List.getElem?_eq_some_iff.mp hj).1
        simp at e1 e2
        omega
  · by_cases h1 : i < st.length
    · rw [List.getElem?_append_left h1] at hi
      obtain ⟨a, w, e1, e2, e3⟩ := r.ob i ob hi
      exact ⟨a, w, get_stp s e1, by rw [upd_ne (ne_of_none e2 h)]; exact e2, e3.mono s⟩
    · rw [List.getElem?_append_right (Nat.le_of_not_lt h1)] at hi
      have e := List.mem_singleton.mp (List.mem_of_getElem? hi)
      subst e
      have hl := (List.getElem?_eq_some_iff.mp hi).1
      simp at hl
      have ei : i = ρ.m.length := by rw [← r.len]; omega
      subst ei
      exact ⟨p, u, by simp [Rho.add], upd_same, q.mono s⟩
theorem Rep.stpPut (r : Rep c ρ fr st σ H) {i : Nat} {a : Addr} {u : HO} (h : ρ.m[i]? = some a) : Stp ρ H ρ (upd H a u) := by
  refine Stp.put (List.mem_of_getElem? h) fun vs q => ?_
  obtain ⟨_, _, w, _, _, e, o⟩ := r.at (List.mem_of_getElem? h)
  rw [q] at e; cases e; exact o.mut.2.1 _ rfl
theorem Rep.put (r : Rep c ρ fr st σ H) {i : Nat} {a : Addr} {o : Ob} {u : HO} (h : ρ.m[i]? = some a) (q : OR c ρ H o u) : Rep c ρ fr (st.set i o) σ (upd H a u) := by
  have s := r.stpPut (u := u) h
  refine ⟨by simp [r.len], r.fl, fun j v hv => let ⟨x, e, q⟩ := r.fr j v hv; ⟨x, e, q.mono s⟩, r.inj, fun j ob hj => ?_, fun b hb => live_upd b (r.hd b hb)⟩
  by_cases e : i = j
  · subst e
    have hl : i < st.length := by rw [r.len]; exact (List.getElem?_eq_some_iff.mp h).1
    rw [List.getElem?_set_self hl] at hj
    cases hj
    exact ⟨a, u, h, upd_same, q.mono s⟩
  · rw [List.getElem?_set_ne e] at hj
    obtain ⟨b, w, e1, e2, e3⟩ := r.ob j ob hj
    have ne : b ≠ a := fun z => e (r.inj i j a h (z ▸ e1))
    exact ⟨b, w, e1, by rw [upd_ne ne]; exact e2, e3.mono s⟩
theorem Rep.slot (r : Rep c ρ fr st σ H) {i : Nat} {v : AV} {x : V} (q : VR c ρ H v x) : Rep c ρ (fr.set i (some v)) st (σ.set i (some x)) H := by
  refine ⟨r.len, by simp [r.fl], fun j w hj => ?_, r.inj, r.ob, r.hd⟩
  by_cases e : i = j
  · subst e
    have hl : i < fr.length := by
      have := (List.getElem?_eq_some_iff.mp hj).1
      simpa using this
    rw [List.getElem?_set_self hl] at hj
    cases hj
    exact ⟨x, List.getElem?_set_self (by rw [← r.fl]; exact hl), q⟩
  · rw [List.getElem?_set_ne e] at hj
    rw [List.getElem?_set_ne e]
    exact r.fr j w hj
/-- fewer slots are known -/
theorem Rep.weak (r : Rep c ρ fr st σ H) {fr' : Fr} (hl : fr'.length = fr.length) (h : ∀ (i : Nat) (v : AV), fr'[i]? = some (some v) → fr[i]? = some (some v)) : Rep c ρ fr' st σ H :=
  ⟨r.len, hl.trans r.fl, fun i v e => r.fr i v (h i v e), r.inj, r.ob, r.hd⟩
/-- other frames over the same store -/
theorem Rep.reframe (r : Rep c ρ fr st σ H) {fr' : Fr} {σ' : L2.St} (hl : fr'.length = σ'.length) (h : ∀ (i : Nat) (v : AV), fr'[i]? = some (some v) → ∃ x, σ'[i]? = some (some x) ∧ VR c ρ H v x) : Rep c ρ fr' st σ' H :=
  ⟨r.len, hl, h, r.inj, r.ob, r.hd⟩
/-- the frame ahead, over what came later -/
theorem Rep.back {ρ' : Rho} {H' : Hp} {fr' : Fr} {σ' : L2.St} {st' : Sto} (r : Rep c ρ fr st σ H) (s : Stp ρ H ρ' H') (r' : Rep c ρ' fr' st' σ' H') : Rep c ρ' fr st' σ H' :=
  ⟨r'.len, r.fl, fun i v e => let ⟨x, q, w⟩ := r.fr i v e; ⟨x, q, w.mono s⟩, r'.inj, r'.ob, r'.hd⟩
theorem Rep.hide (r : Rep c ρ fr st σ H) {p : Addr} {w : HO} (h : H p = none) : Rep c (ρ.hide p) fr st σ (upd H p w) :=
  have s := Stp.hide (ρ := ρ) (o := w) h
  ⟨r.len, r.fl, fun i v e => let ⟨x, q, z⟩ := r.fr i v e; ⟨x, q, z.mono s⟩, r.inj, fun i o e => let ⟨a, u, e1, e2, e3⟩ := r.ob i o e; ⟨a, u, e1, by rw [upd_ne (ne_of_none e2 h)]; exact e2, e3.mono s⟩, fun a ha => by
    rcases List.mem_cons.mp ha with e | ha
    · subst e; rw [upd_same]; simp
    · exact live_upd a (r.hd a ha)⟩
mutual
theorem VR.drop {p : Addr} : ∀ {x : AV} {v : V}, VR c ρ H x v → VR c (ρ.drop p) H x v
  | _, _, .non => .non
  | _, _, .bl b => .bl b
  | _, _, .int i => .int i
  | _, _, .str x => .str x
  | _, _, .ty n => .ty n
  | _, _, .tup q r => .tup q (VRs.drop r)
  | _, _, .ktup q r => .ktup q (VRs.drop r)
  | _, _, .lst q n r => .lst q (drop_has n) (VRs.drop r)
  | _, _, .dk q n r => .dk q (drop_has n) (VRk.drop r)
  | _, _, .dt q n r => .dt q (drop_has n) (VRt.drop r)
  | _, _, .ins g q n r => .ins g q (drop_has n) (VRf.drop r)
  | _, _, .ptr q => .ptr q
  | _, _, .glo q => .glo q
theorem VRs.drop {p : Addr} : ∀ {x : List AV} {v : List V}, VRs c ρ H x v → VRs c (ρ.drop p) H x v
  | _, _, .nil => .nil
  | _, _, .cons q r => .cons (VR.drop q) (VRs.drop r)
theorem VRk.drop {p : Addr} : ∀ {x : List (Key × AV)} {v : List (Key × V)}, VRk c ρ H x v → VRk c (ρ.drop p) H x v
  | _, _, .nil => .nil
  | _, _, .cons q r => .cons (VR.drop q) (VRk.drop r)
theorem VRt.drop {p : Addr} : ∀ {x : List (List Key × AV)} {v : List (List Key × V)}, VRt c ρ H x v → VRt c (ρ.drop p) H x v
  | _, _, .nil => .nil
  | _, _, .cons q r => .cons (VR.drop q) (VRt.drop r)
theorem VRf.drop {p : Addr} : ∀ {x : List (String × AV)} {v : List (Str × V)}, VRf c ρ H x v → VRf c (ρ.drop p) H x v
  | _, _, .nil => .nil
  | _, _, .cons q r => .cons (VR.drop q) (VRf.drop r)
/-- a hidden object is changed -/
theorem VR.poke {p : Addr} {o : HO} (hp : p ∈ ρ.h) (nt : ∀ vs, H p ≠ some (.tup vs)) : ∀ {x : AV} {v : V}, VR c ρ H x v → VR c ρ (upd H p o) x v
  | _, _, .non => .non
  | _, _, .bl b => .bl b
  | _, _, .int i => .int i
  | _, _, .str x => .str x
  | _, _, .ty n => .ty n
  | _, _, .tup (a := a) (vs := vs) q r => .tup (by rw [upd_ne (show a ≠ p from fun e => nt vs (by rw [← e]; exact q))]; exact q) (VRs.poke hp nt r)
  | _, _, .ktup q r => .ktup q (VRs.poke hp nt r)
  | _, _, .lst (a := a) q n r => .lst (rd_upd q (show a ≠ p from fun e => n (.inr (by rw [e]; exact hp)))) n (VRs.poke hp nt r)
  | _, _, .dk (a := a) q n r => .dk (rd_upd q (show a ≠ p from fun e => n (.inr (by rw [e]; exact hp)))) n (VRk.poke hp nt r)
  | _, _, .dt (a := a) q n r => .dt (rd_upd q (show a ≠ p from fun e => n (.inr (by rw [e]; exact hp)))) n (VRt.poke hp nt r)
  | _, _, .ins (a := a) g q n r => .ins g (by rw [upd_ne (show a ≠ p from fun e => n (.inr (by rw [e]; exact hp)))]; exact q) n (VRf.poke hp nt r)
  | _, _, .ptr q => .ptr q
  | _, _, .glo q => .glo q
theorem VRs.poke {p : Addr} {o : HO} (hp : p ∈ ρ.h) (nt : ∀ vs, H p ≠ some (.tup vs)) : ∀ {x : List AV} {v : List V}, VRs c ρ H x v → VRs c ρ (upd H p o) x v
  | _, _, .nil => .nil
  | _, _, .cons q r => .cons (VR.poke hp nt q) (VRs.poke hp nt r)
theorem VRk.poke {p : Addr} {o : HO} (hp : p ∈ ρ.h) (nt : ∀ vs, H p ≠ some (.tup vs)) : ∀ {x : List (Key × AV)} {v : List (Key × V)}, VRk c ρ H x v → VRk c ρ (upd H p o) x v
  | _, _, .nil => .nil
  | _, _, .cons q r => .cons (VR.poke hp nt q) (VRk.poke hp nt r)
theorem VRt.poke {p : Addr} {o : HO} (hp : p ∈ ρ.h) (nt : ∀ vs, H p ≠ some (.tup vs)) : ∀ {x : List (List Key × AV)} {v : List (List Key × V)}, VRt c ρ H x v → VRt c ρ (upd H p o) x v
  | _, _, .nil => .nil
  | _, _, .cons q r => .cons (VR.poke hp nt q) (VRt.poke hp nt r)
theorem VRf.poke {p : Addr} {o : HO} (hp : p ∈ ρ.h) (nt : ∀ vs, H p ≠ some (.tup vs)) : ∀ {x : List (String × AV)} {v : List (Str × V)}, VRf c ρ H x v → VRf c ρ (upd H p o) x v
  | _, _, .nil => .nil
  | _, _, .cons q r => .cons (VR.poke hp nt q) (VRf.poke hp nt r)
end
theorem OR.drop {p : Addr} {o : Ob} {u : HO} (q : OR c ρ H o u) : OR c (ρ.drop p) H o u := by
  cases q with
  | lst r => exact .lst r.drop
  | dk r => exact .dk r.drop
  | dt r => exact .dt r.drop
  | ins g r => exact .ins g r.drop
theorem OR.poke {p : Addr} {w : HO} (hp : p ∈ ρ.h) (nt : ∀ vs, H p ≠ some (.tup vs)) {o : Ob} {u : HO} (q : OR c ρ H o u) : OR c ρ (upd H p w) o u := by
  cases q with
  | lst r => exact .lst (r.poke hp nt)
  | dk r => exact .dk (r.poke hp nt)
  | dt r => exact .dt (r.poke hp nt)
  | ins g r => exact .ins g (r.poke hp nt)
theorem Rep.drop {p : Addr} (r : Rep c ρ fr st σ H) : Rep c (ρ.drop p) fr st σ H :=
  ⟨r.len, r.fl, fun i v e => let ⟨x, q, z⟩ := r.fr i v e; ⟨x, q, z.drop⟩, r.inj, fun i o e => let ⟨a, u, e1, e2, e3⟩ := r.ob i o e; ⟨a, u, e1, e2, e3.drop⟩, fun a ha => r.hd a (List.mem_filter.mp ha).1⟩
theorem Rep.poke (r : Rep c ρ fr st σ H) {p : Addr} {w : HO} (hp : p ∈ ρ.h) (hm : p ∉ ρ.m) (nt : ∀ vs, H p ≠ some (.tup vs)) : Rep c ρ fr st σ (upd H p w) :=
  ⟨r.len, r.fl, fun i v e => let ⟨x, q, z⟩ := r.fr i v e; ⟨x, q, z.poke hp nt⟩, r.inj, fun i o e => let ⟨a, u, e1, e2, e3⟩ := r.ob i o e; ⟨a, u, e1, by rw [upd_ne (show a ≠ p from fun z => hm (z ▸ List.mem_of_getElem? e1))]; exact e2, e3.poke hp nt⟩, fun a ha => live_upd a (r.hd a ha)⟩
end
end
end MM
set_option Elab.async false
set_option linter.all false
set_option maxRecDepth 100000
set_option maxHeartbeats 4000000
/-! The mirror's judgements, and what binds them. -/
namespace MM
open PySem PySem.Spec PyProof.Rows L2

inductive Flw where
  | next | brk | cont
  | ret (v : AV)
/-- a statement's end: the slots, the store -/
inductive RS where
  | ok (f : Flw) (fr : Fr) (st : Sto)
  | exc (e : Exn) (fr : Fr) (st : Sto)
  | stuck

section
variable (c : MC) (W : WX)
/-- what is wanted of an expression's end -/
def Pst {α : Type} (ρ : Rho) (fr : Fr) (σ : L2.St) (H : Hp) (P : α → Rho → Hp → Prop) : R α → Prop
  | .ok a st => ∀ ρ' H', Stp ρ H ρ' H' → Rep c ρ' fr st σ H' → P a ρ' H'
  | .exc e st => ∀ ρ' cl d H', Stp ρ H ρ' H' → Rep c ρ' fr st σ H' → ExR c ρ' e cl d H' → W cl d σ H'
  | .stuck => False
def PV (Q : VK) : AV → Rho → Hp → Prop := fun v ρ H => ∀ x, VR c ρ H v x → Q x H
def PB (Q : Bool → Hp → Prop) : Bool → Rho → Hp → Prop := fun b _ H => Q b H
def PL (Q : List V → Hp → Prop) : List AV → Rho → Hp → Prop := fun v ρ H => ∀ x, VRs c ρ H v x → Q x H
/-- the values vs are known as data -/
def tG {α : Type} (vs : List V) (m : List AV → Fr → M α) (P : α → Rho → Hp → Prop) (σ : L2.St) (H : Hp) : Prop :=
  ∃ ρ fr st avs, Rep c ρ fr st σ H ∧ VRs c ρ H avs vs ∧ Pst c W ρ fr σ H P (m avs fr st)
def tM (m : Fr → M AV) : TE := fun σ H Q => tG c W [] (fun _ => m) (PV c Q) σ H
def tMb (m : Fr → M Bool) : TT := fun σ H Q => tG c W [] (fun _ => m) (PB Q) σ H
def tMa (m : Fr → M (List AV)) : TA := fun σ H Q => tG c W [] (fun _ => m) (PL c Q) σ H
def PstS (ρ : Rho) (H : Hp) (D : Ends) : RS → Prop
  | .ok .next fr st => ∀ ρ' σ' H', Stp ρ H ρ' H' → Rep c ρ' fr st σ' H' → D.nx σ' H'
  | .ok .brk fr st => ∀ ρ' σ' H', Stp ρ H ρ' H' → Rep c ρ' fr st σ' H' → D.bk σ' H'
  | .ok .cont fr st => ∀ ρ' σ' H', Stp ρ H ρ' H' → Rep c ρ' fr st σ' H' → D.ct σ' H'
  | .ok (.ret v) fr st => ∀ ρ' σ' x H', Stp ρ H ρ' H' → Rep c ρ' fr st σ' H' → VR c ρ' H' v x → D.rt x H'
  | .exc e fr st => ∀ ρ' σ' cl d H', Stp ρ H ρ' H' → Rep c ρ' fr st σ' H' → ExR c ρ' e cl d H' → W cl d σ' H'
  | .stuck => False
def tMs (m : Fr → Sto → RS) : TS := fun D σ H => ∃ ρ fr st, Rep c ρ fr st σ H ∧ PstS c W ρ H D (m fr st)
end

section
variable {c : MC} {W : WX} {ρ ρ' : Rho} {H H' : Hp} {σ : L2.St} {fr : Fr}
theorem Pst.mono {α : Type} {P : α → Rho → Hp → Prop} (s : Stp ρ H ρ' H') : ∀ {r : R α}, Pst c W ρ fr σ H P r → Pst c W ρ' fr σ H' P r
  | .ok _ _, h => fun ρ2 H2 s2 q => h ρ2 H2 (s.trans s2) q
  | .exc _ _, h => fun ρ2 cl d H2 s2 q e => h ρ2 cl d H2 (s.trans s2) q e
  | .stuck, h => h.elim
theorem PstS.mono {D : Ends} (s : Stp ρ H ρ' H') : ∀ {r : RS}, PstS c W ρ H D r → PstS c W ρ' H' D r
  | .ok .next _ _, h => fun ρ2 σ2 H2 s2 q => h ρ2 σ2 H2 (s.trans s2) q
  | .ok .brk _ _, h => fun ρ2 σ2 H2 s2 q => h ρ2 σ2 H2 (s.trans s2) q
  | .ok .cont _ _, h => fun ρ2 σ2 H2 s2 q => h ρ2 σ2 H2 (s.trans s2) q
  | .ok (.ret _) _ _, h => fun ρ2 σ2 x H2 s2 q v => h ρ2 σ2 x H2 (s.trans s2) q v
  | .exc _ _ _, h => fun ρ2 σ2 cl d H2 s2 q e => h ρ2 σ2 cl d H2 (s.trans s2) q e
  | .stuck, h => h.elim
theorem VRs.app : ∀ {xs ys : List AV} {vs ws : List V}, VRs c ρ H xs vs → VRs c ρ H ys ws → VRs c ρ H (xs ++ ys) (vs ++ ws)
  | _, _, _, _, .nil, s => s
  | _, _, _, _, .cons h r, s => .cons h (VRs.app r s)
theorem VRs.len : ∀ {xs : List AV} {vs : List V}, VRs c ρ H xs vs → xs.length = vs.length
  | _, _, .nil => rfl
  | _, _, .cons _ r => by rw [List.length_cons, List.length_cons, VRs.len r]
theorem VRs.get : ∀ {xs : List AV} {vs : List V} {i : Nat} {x : AV}, VRs c ρ H xs vs → xs[i]? = some x → ∃ v, vs[i]? = some v ∧ VR c ρ H x v
  | _, _, _, _, .nil, e => by simp at e
  | _, _, 0, _, .cons h _, e => by simp at e; subst e; exact ⟨_, rfl, h⟩
  | _, _, i + 1, _, .cons _ r, e => by
    obtain ⟨v, a, b⟩ := VRs.get (i := i) r (by simpa using e)
    exact ⟨v, by simpa using a, b⟩
theorem VRs.get' : ∀ {xs : List AV} {vs : List V} {i : Nat} {v : V}, VRs c ρ H xs vs → vs[i]? = some v → ∃ x, xs[i]? = some x ∧ VR c ρ H x v
  | _, _, _, _, .nil, e => by simp at e
  | _, _, 0, _, .cons h _, e => by simp at e; subst e; exact ⟨_, rfl, h⟩
  | _, _, i + 1, _, .cons _ r, e => by
    obtain ⟨v, a, b⟩ := VRs.get' (i := i) r (by simpa using e)
    exact ⟨v, by simpa using a, b⟩
theorem VRs.map {α : Type} {f : α → AV} {g : α → V} : ∀ (l : List α), (∀ a ∈ l, VR c ρ H (f a) (g a)) → VRs c ρ H (l.map f) (l.map g)
  | [], _ => .nil
  | a :: r, h => .cons (h a List.mem_cons_self) (VRs.map r fun b hb => h b (List.mem_cons_of_mem _ hb))

variable {α β : Type} {P : β → Rho → Hp → Prop} {vs : List V}
/-- first m, then k with its value -/
theorem bindV {m : Fr → M AV} {k : List AV → Fr → M β} (h : tG c W vs (fun avs fr st => (m fr st).bind fun v => k (avs ++ [v]) fr) P σ H) : tM c W m σ H fun x H1 => tG c W (vs ++ [x]) k P σ H1 := by
  obtain ⟨ρ, fr, st, avs, r, q, p⟩ := h
  refine ⟨ρ, fr, st, [], r, .nil, ?_⟩
  show Pst c W ρ fr σ H _ (m fr st)
  cases e : m fr st with
  | ok v st1 =>
    simp only [e, R.bind_ok] at p
    exact fun ρ' H' s r' x hx => ⟨ρ', fr, st1, avs ++ [v], r', (q.mono s).app (.cons hx .nil), p.mono s⟩
  | exc x st1 => simp only [e, R.bind_exc] at p; exact p
  | stuck => simp only [e, R.bind_stuck] at p; exact p.elim
theorem bindB {m : Fr → M Bool} {k : Bool → List AV → Fr → M β} (h : tG c W vs (fun avs fr st => (m fr st).bind fun b => k b avs fr) P σ H) : tMb c W m σ H fun b H1 => tG c W vs (k b) P σ H1 := by
  obtain ⟨ρ, fr, st, avs, r, q, p⟩ := h
  refine ⟨ρ, fr, st, [], r, .nil, ?_⟩
  show Pst c W ρ fr σ H _ (m fr st)
  cases e : m fr st with
  | ok v st1 =>
    simp only [e, R.bind_ok] at p
    exact fun ρ' H' s r' => ⟨ρ', fr, st1, avs, r', q.mono s, p.mono s⟩
  | exc x st1 => simp only [e, R.bind_exc] at p; exact p
  | stuck => simp only [e, R.bind_stuck] at p; exact p.elim
theorem bindL {m : Fr → M (List AV)} {k : List AV → Fr → M β} (h : tG c W vs (fun avs fr st => (m fr st).bind fun v => k (avs ++ v) fr) P σ H) : tMa c W m σ H fun x H1 => tG c W (vs ++ x) k P σ H1 := by
  obtain ⟨ρ, fr, st, avs, r, q, p⟩ := h
  refine ⟨ρ, fr, st, [], r, .nil, ?_⟩
  show Pst c W ρ fr σ H _ (m fr st)
  cases e : m fr st with
  | ok v st1 =>
    simp only [e, R.bind_ok] at p
    exact fun ρ' H' s r' x hx => ⟨ρ', fr, st1, avs ++ v, r', (q.mono s).app hx, p.mono s⟩
  | exc x st1 => simp only [e, R.bind_exc] at p; exact p
  | stuck => simp only [e, R.bind_stuck] at p; exact p.elim
theorem tG.imp {m : List AV → Fr → M β} {P' : β → Rho → Hp → Prop} (h : tG c W vs m P σ H) (hp : ∀ a ρ H, P a ρ H → P' a ρ H) : tG c W vs m P' σ H := by
  obtain ⟨ρ, fr, st, avs, r, q, p⟩ := h
  refine ⟨ρ, fr, st, avs, r, q, ?_⟩
  cases e : m avs fr st with
  | ok v st1 => rw [e] at p; exact fun ρ' H' s r' => hp _ _ _ (p ρ' H' s r')
  | exc x st1 => rw [e] at p; exact p
  | stuck => rw [e] at p; exact p.elim
theorem tG.nil {m : List AV → Fr → M β} (h : tG c W [] (fun _ => m []) P σ H) : tG c W [] m P σ H := by
  obtain ⟨ρ, fr, st, avs, r, q, p⟩ := h
  cases q
  exact ⟨ρ, fr, st, [], r, .nil, p⟩
/-- a pure end: nothing changed -/
theorem Pst.pure {a : β} {st : Sto} (r : Rep c ρ fr st σ H) (h : Pst c W ρ fr σ H P (.ok a st)) : P a ρ H := h ρ H (Stp.refl _ _) r

def ap1 {α : Type} (f : AV → M α) : List AV → Fr → M α := fun avs _ => match avs with
  | [v] => f v
  | _ => fun _ => .stuck
def ap2 {α : Type} (f : AV → AV → M α) : List AV → Fr → M α := fun avs _ => match avs with
  | [v, w] => f v w
  | _ => fun _ => .stuck
theorem tG.un1 {x : V} {f : AV → M β} (h : tG c W [x] (ap1 f) P σ H) : ∃ ρ fr st v, Rep c ρ fr st σ H ∧ VR c ρ H v x ∧ Pst c W ρ fr σ H P (f v st) := by
  obtain ⟨ρ, fr, st, avs, r, q, p⟩ := h
  cases q with
  | cons h1 q =>
    cases q
    exact ⟨ρ, fr, st, _, r, h1, p⟩
theorem tG.un2 {x y : V} {f : AV → AV → M β} (h : tG c W [x, y] (ap2 f) P σ H) : ∃ ρ fr st v w, Rep c ρ fr st σ H ∧ VR c ρ H v x ∧ VR c ρ H w y ∧ Pst c W ρ fr σ H P (f v w st) := by
  obtain ⟨ρ, fr, st, avs, r, q, p⟩ := h
  cases q with
  | cons h1 q =>
    cases q with
    | cons h2 q =>
      cases q
      exact ⟨ρ, fr, st, _, _, r, h1, h2, p⟩
theorem tG.unL {xs : List V} {f : List AV → M β} (h : tG c W xs (fun avs _ => f avs) P σ H) : ∃ ρ fr st avs, Rep c ρ fr st σ H ∧ VRs c ρ H avs xs ∧ Pst c W ρ fr σ H P (f avs st) := by
  obtain ⟨ρ, fr, st, avs, r, q, p⟩ := h
  exact ⟨ρ, fr, st, avs, r, q, p⟩
end

/-! ### the judgements over a context -/
section
variable {X : Cx} {e e' : Expr} {st : Stmt} {sts : List Stmt}
abbrev cx (X : Cx) (G : String → Option Addr) : MC := ⟨X.K, G⟩
abbrev ME (X : Cx) (G : String → Option Addr) (W : WX) (e : Expr) (m : Fr → M AV) : Prop := PE X e (tM (cx X G) W m)
abbrev MT (X : Cx) (G : String → Option Addr) (W : WX) (e : Expr) (m : Fr → M Bool) : Prop := PT X e (tMb (cx X G) W m)
abbrev MW (X : Cx) (G : String → Option Addr) (W : WX) (e : Expr) (m : Fr → M Bool) : Prop := PW X e (tMb (cx X G) W m)
abbrev MA (X : Cx) (G : String → Option Addr) (W : WX) (es : List Expr) (m : Fr → M (List AV)) : Prop := PA X es (tMa (cx X G) W m)
abbrev MS (X : Cx) (G : String → Option Addr) (W : WX) (s : Stmt) (m : Fr → Sto → RS) : Prop := PS X s (tMs (cx X G) W m)
abbrev MSs (X : Cx) (G : String → Option Addr) (W : WX) (s : List Stmt) (m : Fr → Sto → RS) : Prop := PSs X s (tMs (cx X G) W m)
theorem pe_imp {t t' : TE} (h : PE X e t) (i : ∀ σ H Q, t' σ H Q → t σ H Q) : PE X e t' := ⟨fun pins s σ H Q I q => h.run pins s σ H Q I (i σ H Q q)⟩
theorem pt_imp {t t' : TT} (h : PT X e t) (i : ∀ σ H Q, t' σ H Q → t σ H Q) : PT X e t' := ⟨fun pins s σ H Q I q => h.run pins s σ H Q I (i σ H Q q)⟩
theorem pw_imp {t t' : TT} (h : PW X e t) (i : ∀ σ H Q, t' σ H Q → t σ H Q) : PW X e t' := ⟨fun w pins s σ H Q I q => h.run w pins s σ H Q I (i σ H Q q)⟩
theorem pa_imp {es : List Expr} {t t' : TA} (h : PA X es t) (i : ∀ σ H Q, t' σ H Q → t σ H Q) : PA X es t' := ⟨fun pos pins s σ H Q I q => h.run pos pins s σ H Q I (i σ H Q q)⟩
theorem ps_imp {t t' : TS} (h : PS X st t) (i : ∀ D σ H, t' D σ H → t D σ H) : PS X st t' := ⟨fun pins s σ H D I q => h.run pins s σ H D I (i D σ H q)⟩
theorem pss_imp {t t' : TS} (h : PSs X sts t) (i : ∀ D σ H, t' D σ H → t D σ H) : PSs X sts t' := ⟨fun pins s σ H D I q => h.run pins s σ H D I (i D σ H q)⟩
end
end MM
set_option Elab.async false
set_option linter.all false
set_option maxRecDepth 100000
set_option maxHeartbeats 4000000
/-! The mirror's expressions: names, constants, operators, tests, calls of built-ins. -/
namespace MM
open PySem PySem.Spec PyProof.Rows L2

theorem ofString_inj {a b : String} (h : Str.ofString a = Str.ofString b) : a = b := by
  rw [Str.ofString_eq_toList, Str.ofString_eq_toList] at h
  have h1 : (a.toList.map Char.toNat).toArray = (b.toList.map Char.toNat).toArray := by injection h
  have h2 : a.toList.map Char.toNat = b.toList.map Char.toNat := by simpa using congrArg Array.toList h1
  have h3 : a.toList = b.toList := by
    refine (List.map_inj_right (f := Char.toNat) fun x y e => ?_).mp h2
    have e' : x.val.toNat = y.val.toNat := e
    exact Char.ext (UInt32.toNat_inj.mp e')
  exact String.toList_inj.mp h3
@[simp] theorem ofString_eq {a b : String} : (Str.ofString a = Str.ofString b) ↔ a = b := ⟨ofString_inj, fun h => by rw [h]⟩

section
variable {X : Cx} {G : String → Option Addr} {W : WX} {e a b : Expr} {es : List Expr} {pos p : Pos} {ma mb : Fr → M AV} {tb tc : Fr → M Bool}

/-! ### names, constants -/
def mVar (i : Nat) : Fr → M AV := fun fr st => match fr[i]? with
  | some (some v) => .ok v st
  | _ => .stuck
def mC (v : AV) : Fr → M AV := fun _ st => .ok v st
theorem me_v {i : Nat} (h : PE X e (tVar i)) : ME X G W e (mVar i) := pe_imp h fun σ H Q q => by
  obtain ⟨ρ, fr, st, avs, r, _, p⟩ := q
  have p : Pst (cx X G) W ρ fr σ H (PV (cx X G) Q) (mVar i fr st) := p
  unfold mVar at p
  split at p
  · rename_i v hv
    obtain ⟨x, e1, e2⟩ := r.fr i v hv
    exact ⟨x, e1, p ρ H (Stp.refl _ _) r x e2⟩
  · exact p.elim
theorem me_c {x : V} {v : AV} (h : PE X e (tC x)) (hv : ∀ ρ H, VR (cx X G) ρ H v x) : ME X G W e (mC v) := pe_imp h fun σ H Q q => by
  obtain ⟨ρ, fr, st, avs, r, _, p⟩ := q
  exact p ρ H (Stp.refl _ _) r x (hv ρ H)
theorem me_int {i : Int} {j : Nat} : ME X G W (.Constant (.int i) j pos) (mC (.int i)) := me_c pe_int fun _ _ => .int _
theorem me_bl {i : Bool} {j : Nat} : ME X G W (.Constant (.bool i) j pos) (mC (.bl i)) := me_c pe_bl fun _ _ => .bl _
theorem me_non {j : Nat} : ME X G W (.Constant .none j pos) (mC .non) := me_c pe_non fun _ _ => .non
theorem me_str {i : Str} {j : Nat} : ME X G W (.Constant (.str i) j pos) (mC (.str i)) := me_c pe_str fun _ _ => .str _

/-! ### operators by values -/
def m1 (f : AV → M AV) (ma : Fr → M AV) : Fr → M AV := fun fr st => (ma fr st).bind fun v st1 => f v st1
def m2 (f : AV → AV → M AV) (ma mb : Fr → M AV) : Fr → M AV := fun fr st => (ma fr st).bind fun v st1 => (mb fr st1).bind fun w st2 => f v w st2
/-- a rule on two values answers a mirror's operation -/
def Op2 (X : Cx) (G : String → Option Addr) (W : WX) (r : R2) (f : AV → AV → M AV) : Prop :=
  ∀ (x y : V) (σ : L2.St) (H : Hp) (Q : VK), tG (cx X G) W [x, y] (ap2 f) (PV (cx X G) Q) σ H → r x y H Q
def Op1 (X : Cx) (G : String → Option Addr) (W : WX) (r : V → Hp → VK → Prop) (f : AV → M AV) : Prop :=
  ∀ (x : V) (σ : L2.St) (H : Hp) (Q : VK), tG (cx X G) W [x] (ap1 f) (PV (cx X G) Q) σ H → r x H Q
def OpL (X : Cx) (G : String → Option Addr) (W : WX) (r : List V → Hp → VK → Prop) (f : List AV → M AV) : Prop :=
  ∀ (xs : List V) (σ : L2.St) (H : Hp) (Q : VK), tG (cx X G) W xs (fun avs _ => f avs) (PV (cx X G) Q) σ H → r xs H Q
theorem t2 {r : R2} {f : AV → AV → M AV} (hf : Op2 X G W r f) {σ : L2.St} {H : Hp} {Q : VK} (q : tM (cx X G) W (m2 f ma mb) σ H Q) : tOp r (tM (cx X G) W ma) (tM (cx X G) W mb) σ H Q := by
  have q1 := bindV (vs := []) (m := ma) (k := fun avs fr st => (mb fr st).bind fun w st2 => ap2 f (avs ++ [w]) fr st2) (tG.nil q)
  refine tG.imp q1 fun v ρ H1 h x hx => ?_
  refine tG.imp (bindV (m := mb) (k := ap2 f) (h x hx)) fun w ρ2 H2 h2 y hy => ?_
  exact hf x y σ H2 Q (h2 y hy)
theorem t1 {r : V → Hp → VK → Prop} {f : AV → M AV} (hf : Op1 X G W r f) {σ : L2.St} {H : Hp} {Q : VK} (q : tM (cx X G) W (m1 f ma) σ H Q) : tM (cx X G) W ma σ H fun x H1 => r x H1 Q := by
  have q1 := bindV (vs := []) (m := ma) (k := ap1 f) (tG.nil q)
  exact tG.imp q1 fun v ρ H1 h x hx => hf x σ H1 Q (h x hx)
theorem me_op {op : Operator} {r : R2} {f : AV → AV → M AV} (ho : OpR X (binaryOp op) r) (hf : Op2 X G W r f) (ha : ME X G W a ma) (hb : ME X G W b mb) : ME X G W (.BinOp a op b pos) (m2 f ma mb) := pe_imp (pe_op ho ha hb) fun _ _ _ q => t2 hf q
theorem me_un {op : UnaryOp} {r : V → Hp → VK → Prop} {f : AV → M AV} (ho : UnR X (unaryOp op) r) (hf : Op1 X G W r f) (ha : ME X G W a ma) : ME X G W (.UnaryOp op a pos) (m1 f ma) := pe_imp (pe_un ho ha) fun _ _ _ q => t1 hf q
theorem me_cmp {op : CmpOp} {r : R2} {f : AV → AV → M AV} (ho : OpR X (compareOp op) r) (hf : Op2 X G W r f) (ha : ME X G W a ma) (hb : ME X G W b mb) (hm : behindInMarks op b = false) : ME X G W (.Compare a [op] [b] pos) (m2 f ma mb) := pe_imp (pe_cmpR ho ha hb hm) fun _ _ _ q => t2 hf q
/-- the value as a test -/
def mB (m : Fr → M AV) : Fr → M Bool := fun fr st => (m fr st).bind fun v st1 => match v with
  | .bl b => .ok b st1
  | _ => .stuck
theorem tTestM {m : Fr → M AV} {σ : L2.St} {H : Hp} {Q : Bool → Hp → Prop} (q : tMb (cx X G) W (mB m) σ H Q) : tM (cx X G) W m σ H fun x H' => ∃ k, x = .bl k ∧ Q k H' := by
  have q1 := bindV (c := cx X G) (W := W) (vs := []) (m := m) (k := ap1 fun v st1 => match v with
    | .bl b => R.ok b st1
    | _ => .stuck) (tG.nil q)
  refine tG.imp q1 fun v ρ H1 h x hx => ?_
  obtain ⟨ρ', fr, st, w, r, hw, p⟩ := (h x hx).un1
  cases hw <;> first
    | exact ⟨_, rfl, p ρ' H1 (Stp.refl _ _) r⟩
    | exact p.elim
theorem mt_cmp {op : CmpOp} {r : R2} {f : AV → AV → M AV} (ho : OpR X (compareOp op) r) (hf : Op2 X G W r f) (ha : ME X G W a ma) (hb : ME X G W b mb) (hm : behindInMarks op b = false) : MT X G W (.Compare a [op] [b] pos) (mB (m2 f ma mb)) :=
  pt_imp (pt_cmpR ho ha hb hm) fun σ H Q q => t2 hf (tTestM q)
theorem mt_val {m : Fr → M AV} (h : ME X G W e m) (he : ∀ whole, isTrue e X.env whole = (do let v ← whole; standAt e.pos; holding [v] (truthy v)) := by intro _; rfl) : MT X G W e (mB m) := pt_imp (pt_val h he) fun _ _ _ q => tTestM q
/-- a < b < c -/
def mChain (f g : AV → AV → M AV) (ma mb mc : Fr → M AV) : Fr → M AV := fun fr st => (ma fr st).bind fun v st1 => (mb fr st1).bind fun w st2 => (f v w st2).bind fun z st3 => match z with
  | .bl true => (mc fr st3).bind fun u st4 => g w u st4
  | .bl false => .ok (.bl false) st3
  | _ => .stuck
end
end MM
set_option Elab.async false
set_option linter.all false
set_option maxRecDepth 100000
set_option maxHeartbeats 4000000
/-! The mirror's operations on values: ints, sequences, equality, membership, isinstance, built-ins. -/
namespace MM
open PySem PySem.Spec PyProof.Rows L2

section
variable {X : Cx} {G : String → Option Addr} {W : WX} {e a b c3 : Expr} {es : List Expr} {pos p : Pos} {ma mb mc : Fr → M AV} {tb tc : Fr → M Bool}

/-! ### ints -/
def iI (f : Int → Int → AV) : AV → AV → M AV := fun v w st => match v, w with
  | .int i, .int j => .ok (f i j) st
  | _, _ => .stuck
def iIc (C : Int → Int → Bool) (f : Int → Int → AV) : AV → AV → M AV := fun v w st => match v, w with
  | .int i, .int j => if C i j then .ok (f i j) st else .stuck
  | _, _ => .stuck
theorem o2_I0 {g : Int → Int → V} {f : Int → Int → AV} (h : ∀ i j (ρ : Rho) (H : Hp), VR (cx X G) ρ H (f i j) (g i j)) : Op2 X G W (rI0 g) (iI f) := fun x y σ H Q q => by
  obtain ⟨ρ, fr, st, v, w, r, hv, hw, p⟩ := q.un2
  unfold iI at p
  split at p
  · cases hv; cases hw
    exact ⟨_, _, rfl, rfl, p ρ H (Stp.refl _ _) r _ (h _ _ _ _)⟩
  · exact p.elim
theorem o2_Ic {D : Int → Int → Prop} {C : Int → Int → Bool} {g : Int → Int → V} {f : Int → Int → AV} (hC : ∀ i j, C i j = true → D i j) (h : ∀ i j (ρ : Rho) (H : Hp), VR (cx X G) ρ H (f i j) (g i j)) : Op2 X G W (rI D g) (iIc C f) := fun x y σ H Q q => by
  obtain ⟨ρ, fr, st, v, w, r, hv, hw, p⟩ := q.un2
  unfold iIc at p
  split at p
  · rename_i i j
    by_cases hc : C i j = true
    · rw [if_pos hc] at p
      cases hv; cases hw
      exact ⟨_, _, rfl, rfl, hC _ _ hc, p ρ H (Stp.refl _ _) r _ (h _ _ _ _)⟩
    · rw [if_neg hc] at p; exact p.elim
  · exact p.elim
abbrev addM := iI fun i j => .int (i + j)
abbrev subM := iI fun i j => .int (i - j)
abbrev ltM := iI fun i j => .bl (decide (i < j))
abbrev leM := iI fun i j => .bl (decide (i ≤ j))
abbrev gtM := iI fun i j => .bl (decide (j < i))
abbrev geM := iI fun i j => .bl (decide (j ≤ i))
abbrev modM := iIc (fun _ j => decide (0 < j)) fun i j => .int (i % j)
abbrev fdivM := iIc (fun _ j => decide (0 < j ∧ j < 1073741824)) fun i j => .int (i / j)
abbrev mulM := iIc (fun i _ => decide (-(2 ^ 64) < i ∧ i < 2 ^ 64)) fun i j => .int (i * j)
theorem o_sub : Op2 X G W (rI0 fun i j => .int (i - j)) subM := o2_I0 fun _ _ _ _ => .int _
theorem o_addI : Op2 X G W (rI0 fun i j => .int (i + j)) addM := o2_I0 fun _ _ _ _ => .int _
theorem o_lt : Op2 X G W (rI0 fun i j => .bl (decide (i < j))) ltM := o2_I0 fun _ _ _ _ => .bl _
theorem o_le : Op2 X G W (rI0 fun i j => .bl (decide (i ≤ j))) leM := o2_I0 fun _ _ _ _ => .bl _
theorem o_gt : Op2 X G W (rI0 fun i j => .bl (decide (j < i))) gtM := o2_I0 fun _ _ _ _ => .bl _
theorem o_ge : Op2 X G W (rI0 fun i j => .bl (decide (j ≤ i))) geM := o2_I0 fun _ _ _ _ => .bl _
theorem o_mod : Op2 X G W (rI (fun _ j => 0 < j) fun i j => .int (i % j)) modM := o2_Ic (fun _ _ h => of_decide_eq_true h) fun _ _ _ _ => .int _
theorem o_fdiv : Op2 X G W (rI CDiv fun i j => .int (i / j)) fdivM := o2_Ic (fun _ _ h => by have := of_decide_eq_true h; exact ⟨this.1, this.2⟩) fun _ _ _ _ => .int _
theorem o_mul : Op2 X G W (rI CMul fun i j => .int (i * j)) mulM := o2_Ic (fun _ _ h => .inl (of_decide_eq_true h)) fun _ _ _ _ => .int _
abbrev powM := iIc (fun i j => decide (0 ≤ j ∧ j ≤ 1000000 ∧ i.natAbs < 2 ^ 64)) fun i j => .int (i ^ j.toNat)
theorem o_pow : Op2 X G W (rI CPow fun i j => .int (i ^ j.toNat)) powM := o2_Ic (fun _ _ h => by have := of_decide_eq_true h; exact ⟨this.1, this.2.1, this.2.2⟩) fun _ _ _ _ => .int _
def negM : AV → M AV := fun v st => match v with
  | .int i => .ok (.int (-i)) st
  | _ => .stuck
theorem o_neg : Op1 X G W (rU fun i => .int (-i)) negM := fun x σ H Q q => by
  obtain ⟨ρ, fr, st, v, r, hv, p⟩ := q.un1
  unfold negM at p
  split at p
  · cases hv; exact ⟨_, rfl, p ρ H (Stp.refl _ _) r _ (.int _)⟩
  · exact p.elim
/-- is None -/
def isNM : AV → AV → M AV := fun v w st => match w with
  | .non => (match v with
    | .non => .ok (.bl true) st
    | _ => .ok (.bl false) st)
  | _ => .stuck
def notNM : AV → AV → M AV := fun v w st => match w with
  | .non => (match v with
    | .non => .ok (.bl false) st
    | _ => .ok (.bl true) st)
  | _ => .stuck
theorem o_isN : Op2 X G W (fun x y H Q => y = .non ∧ Q (.bl (decide (x = .non))) H) isNM := fun x y σ H Q q => by
  obtain ⟨ρ, fr, st, v, w, r, hv, hw, p⟩ := q.un2
  unfold isNM at p
  cases hw <;> first
    | exact p.elim
    | (refine ⟨rfl, ?_⟩
       cases hv <;> exact p ρ H (Stp.refl _ _) r _ (.bl _))
theorem o_notN : Op2 X G W (fun x y H Q => y = .non ∧ Q (.bl (!decide (x = .non))) H) notNM := fun x y σ H Q q => by
  obtain ⟨ρ, fr, st, v, w, r, hv, hw, p⟩ := q.un2
  unfold notNM at p
  cases hw <;> first
    | exact p.elim
    | (refine ⟨rfl, ?_⟩
       cases hv <;> exact p ρ H (Stp.refl _ _) r _ (.bl _))
/-- is True, is False -/
def isBM : AV → AV → M AV := fun v w st => match v, w with
  | .bl a, .bl b => .ok (.bl (decide (a = b))) st
  | _, _ => .stuck
def notBM : AV → AV → M AV := fun v w st => match v, w with
  | .bl a, .bl b => .ok (.bl (!decide (a = b))) st
  | _, _ => .stuck
theorem o_isB : Op2 X G W rIsB isBM := fun x y σ H Q q => by
  obtain ⟨ρ, fr, st, v, w, r, hv, hw, p⟩ := q.un2
  unfold isBM at p
  split at p
  · cases hv; cases hw; exact ⟨_, _, rfl, rfl, p ρ H (Stp.refl _ _) r _ (.bl _)⟩
  · exact p.elim
theorem o_notB : Op2 X G W rNotB notBM := fun x y σ H Q q => by
  obtain ⟨ρ, fr, st, v, w, r, hv, hw, p⟩ := q.un2
  unfold notBM at p
  split at p
  · cases hv; cases hw; exact ⟨_, _, rfl, rfl, p ρ H (Stp.refl _ _) r _ (.bl _)⟩
  · exact p.elim

/-! ### sequences -/
def deL (st : Sto) : AV → Option (List AV)
  | .lst xs => some xs
  | .ptr n => match st[n]? with
    | some (.lst xs) => some xs
    | _ => none
  | _ => none
def deT : AV → Option (List AV)
  | .tup xs => some xs
  | .ktup xs => some xs
  | _ => none
def deS (st : Sto) (v : AV) : Option (List AV) := match deT v with
  | some xs => some xs
  | none => deL st v
section
variable {c : MC} {ρ : Rho} {H : Hp} {fr : Fr} {st : Sto} {σ : L2.St} {v : AV} {x : V} {xs : List AV}
theorem deL_ok (r : Rep c ρ fr st σ H) (h : VR c ρ H v x) (e : deL st v = some xs) : ∃ a vs, x = .ref a ∧ Rd H a (.lst vs) ∧ VRs c ρ H xs vs := by
  cases h with
  | lst h n q =>
    have e' : xs = _ := (Option.some.inj e).symm
    subst e'
    exact ⟨_, _, rfl, h, q⟩
  | @ptr n a hp =>
    have e' : (match st[n]? with
      | some (.lst xs) => some xs
      | _ => none) = some xs := e
    split at e'
    · rename_i ys hs
      cases e'
      obtain ⟨b, u, e1, e2, e3⟩ := r.ob n _ hs
      rw [hp] at e1
      cases e1
      cases e3 with
      | lst q => exact ⟨_, _, rfl, .inl e2, q⟩
    · cases e'
  | _ => cases e
theorem deT_ok (h : VR c ρ H v x) (e : deT v = some xs) : ∃ a vs, x = .ref a ∧ SqT c.K H a vs ∧ VRs c ρ H xs vs := by
  cases h with
  | tup h q =>
    have e' : xs = _ := (Option.some.inj e).symm
    subst e'
    exact ⟨_, _, rfl, .of h, q⟩
  | ktup h q =>
    have e' : xs = _ := (Option.some.inj e).symm
    subst e'
    exact ⟨_, _, rfl, h.sq, q⟩
  | _ => cases e
theorem deS_ok (r : Rep c ρ fr st σ H) (h : VR c ρ H v x) (e : deS st v = some xs) : ∃ a vs, x = .ref a ∧ (SqL c.K H a vs ∨ SqT c.K H a vs) ∧ VRs c ρ H xs vs := by
  unfold deS at e
  split at e
  · rename_i ys ht
    cases e
    obtain ⟨a, vs, e1, e2, e3⟩ := deT_ok h ht
    exact ⟨a, vs, e1, .inr e2, e3⟩
  · obtain ⟨a, vs, e1, e2, e3⟩ := deL_ok r h e
    exact ⟨a, vs, e1, .inl (.inl e2), e3⟩
end
theorem atI_vrs {c : MC} {ρ : Rho} {H : Hp} {xs : List AV} {vs : List V} {i : Int} {z : AV} (h : VRs c ρ H xs vs) (e : atI xs i = some z) : ∃ w, atI vs i = some w ∧ VR c ρ H z w := by
  unfold atI at e ⊢
  rw [h.len] at e
  cases q : ixN vs.length i with
  | none => rw [q] at e; cases e
  | some j =>
    rw [q] at e
    exact h.get e
def ixM : AV → AV → M AV := fun v w st => match w with
  | .int i => (match deS st v with
    | some xs => (match atI xs i with
      | some z => .ok z st
      | none => .stuck)
    | none => .stuck)
  | _ => .stuck
theorem o_ix : Op2 X G W (fun x y H Q => rIxL X.K x y H Q ∨ rIxT X.K x y H Q) ixM := fun x y σ H Q q => by
  obtain ⟨ρ, fr, st, v, w, r, hv, hw, p⟩ := q.un2
  unfold ixM at p
  split at p
  · rename_i i
    split at p
    · rename_i xs hx
      split at p
      · rename_i z hz
        obtain ⟨a, vs, rfl, hs, hr⟩ := deS_ok r hv hx
        obtain ⟨u, e1, e2⟩ := atI_vrs hr hz
        cases hw
        rcases hs with hs | hs
        · exact .inl ⟨a, vs, i, u, rfl, rfl, hs, e1, p ρ H (Stp.refl _ _) r _ e2⟩
        · exact .inr ⟨a, vs, i, u, rfl, rfl, hs, e1, p ρ H (Stp.refl _ _) r _ e2⟩
      · exact p.elim
    · exact p.elim
  · exact p.elim
theorem me_ix (ha : ME X G W a ma) (hb : ME X G W b mb) (hs : PlainIx b) : ME X G W (.Subscript a b pos) (m2 ixM ma mb) := pe_imp (pe_ix (ix_list.or ix_tup) ha hb hs) fun _ _ _ q => t2 o_ix q

/-! ### argument lists, displays -/
def mNil : Fr → M (List AV) := fun _ st => .ok [] st
def mCons (m : Fr → M AV) (n : Fr → M (List AV)) : Fr → M (List AV) := fun fr st => (m fr st).bind fun v st1 => (n fr st1).bind fun vs st2 => .ok (v :: vs) st2
theorem ma_nil : MA X G W [] mNil := pa_imp pa_nil fun σ H Q q => by
  obtain ⟨ρ, fr, st, avs, r, _, p⟩ := q
  exact p ρ H (Stp.refl _ _) r [] .nil
theorem ma_cons {m : Fr → M AV} {n : Fr → M (List AV)} (h : ME X G W e m) (hr : MA X G W es n) (hs : starEach (e :: es) X.env = (false, eval e X.env) :: starEach es X.env := by rfl) : MA X G W (e :: es) (mCons m n) := pa_imp (pa_cons h hr hs) fun σ H Q q => by
  have q1 := bindV (c := cx X G) (W := W) (vs := []) (m := m) (k := fun avs fr st => (n fr st).bind fun vs st2 => .ok (avs ++ vs) st2) (tG.nil q)
  refine tG.imp q1 fun v ρ H1 h1 x hx => ?_
  refine tG.imp (bindL (c := cx X G) (W := W) (m := n) (k := fun avs fr st => .ok avs st) (h1 x hx)) fun vs ρ2 H2 h2 xs hxs => ?_
  obtain ⟨ρ3, fr3, st3, avs3, r3, q3, p3⟩ := h2 xs hxs
  exact p3 ρ3 H2 (Stp.refl _ _) r3 _ q3
def tupM (vs : List AV) : M AV := fun st => if vs.length ≤ 1000000 then .ok (.tup vs) st else .stuck
def lstM (vs : List AV) : M AV := fun st => if vs.length ≤ 1000000 then .ok (.lst vs) st else .stuck
/-- a list that is to be changed -/
def newM (vs : List AV) : M AV := fun st => if vs.length ≤ 1000000 then .ok (.ptr st.length) (st ++ [.lst vs]) else .stuck
def mL (f : List AV → M AV) (m : Fr → M (List AV)) : Fr → M AV := fun fr st => (m fr st).bind fun vs st1 => f vs st1
theorem tL {f : List AV → M AV} {r : List V → Hp → VK → Prop} {m : Fr → M (List AV)} (hf : OpL X G W r f) {σ : L2.St} {H : Hp} {Q : VK} (q : tM (cx X G) W (mL f m) σ H Q) : tMa (cx X G) W m σ H fun xs H1 => r xs H1 Q := by
  have q1 := bindL (c := cx X G) (W := W) (vs := []) (m := m) (k := fun avs _ => f avs) (tG.nil q)
  exact tG.imp q1 fun vs ρ H1 h xs hxs => hf xs σ H1 Q (h xs hxs)
theorem sz_le {n : Nat} (h : n ≤ 1000000) : n ≤ sizeLine := Nat.le_trans h (by decide)
theorem ol_tup : OpL X G W (fun xs H Q => xs.length ≤ sizeLine ∧ ∀ p, H p = none → Q (.ref p) (upd H p (.tup xs))) tupM := fun xs σ H Q q => by
  obtain ⟨ρ, fr, st, avs, r, hv, p⟩ := q.unL
  unfold tupM at p
  split at p
  · rename_i hz
    refine ⟨by rw [← hv.len]; exact sz_le hz, fun p1 h1 => p ρ _ (Stp.tmp h1) (r.tmp h1) _ (.tup upd_same (hv.mono (Stp.tmp h1)))⟩
  · exact p.elim
theorem ol_lst : OpL X G W (fun xs H Q => xs.length ≤ sizeLine ∧ ∀ p, H p = none → Q (.ref p) (upd H p (.lst xs))) lstM := fun xs σ H Q q => by
  obtain ⟨ρ, fr, st, avs, r, hv, p⟩ := q.unL
  unfold lstM at p
  split at p
  · rename_i hz
    refine ⟨by rw [← hv.len]; exact sz_le hz, fun p1 h1 => p ρ _ (Stp.tmp h1) (r.tmp h1) _ (.lst (.inl upd_same) (r.notin h1) (hv.mono (Stp.tmp h1)))⟩
  · exact p.elim
theorem ol_new : OpL X G W (fun xs H Q => xs.length ≤ sizeLine ∧ ∀ p, H p = none → Q (.ref p) (upd H p (.lst xs))) newM := fun xs σ H Q q => by
  obtain ⟨ρ, fr, st, avs, r, hv, p⟩ := q.unL
  unfold newM at p
  split at p
  · rename_i hz
    refine ⟨by rw [← hv.len]; exact sz_le hz, fun p1 h1 => p _ _ (Stp.new h1) (r.new h1 (.lst hv)) _ (.ptr ?_)⟩
    rw [r.len]
    simp [Rho.add]
  · exact p.elim
theorem me_tup {k : Nat} {m : Fr → M (List AV)} (h : MA X G W es m) : ME X G W (.Tuple es k pos) (mL tupM m) := pe_imp (pe_tup h) fun _ _ _ q => tL ol_tup q
theorem me_lst {m : Fr → M (List AV)} (h : MA X G W es m) : ME X G W (.List es pos) (mL lstM m) := pe_imp (pe_lst h) fun _ _ _ q => tL ol_lst q
theorem me_new {m : Fr → M (List AV)} (h : MA X G W es m) : ME X G W (.List es pos) (mL newM m) := pe_imp (pe_lst h) fun _ _ _ q => tL ol_new q

/-! ### calls of built-ins -/
theorem me_callB {id : String} {x : Str} {r : List V → Hp → VK → Prop} {f : List AV → M AV} {m : Fr → M (List AV)} (hc : CallR X (.builtin id) r) (hf : OpL X G W r f) (hm : X.mg x = none) (hv : bootBuiltins x = some (.builtin id)) (ha : MA X G W (e :: es) m) (hg : Gl X x := by rfl)
    (hn : x ≠ "__name__" := by decide) (hdb : (x == ("__debug__" : Str)) = false := by decide)
    (he : starEach (e :: es) X.env = (false, eval e X.env) :: starEach es X.env := by rfl) (hpl : (backTo pos (starEach es X.env)).any (·.1) = false := by rfl) : ME X G W (.Call (.Name x p) (e :: es) [] pos) (mL f m) :=
  pe_imp (pe_callB hc hg hm hv ha hn hdb he hpl) fun _ _ _ q => tL hf q
theorem me_callTy {T : String} {x : Str} {r : List V → Hp → VK → Prop} {f : List AV → M AV} {m : Fr → M (List AV)} (hc : CallR X (.type T) r) (hf : OpL X G W r f) (hm : X.mg x = none) (hv : bootBuiltins x = some (.type T)) (ha : MA X G W (e :: es) m) (hg : Gl X x := by rfl)
    (hn : x ≠ "__name__" := by decide) (hdb : (x == ("__debug__" : Str)) = false := by decide)
    (he : starEach (e :: es) X.env = (false, eval e X.env) :: starEach es X.env := by rfl) (hpl : (backTo pos (starEach es X.env)).any (·.1) = false := by rfl) : ME X G W (.Call (.Name x p) (e :: es) [] pos) (mL f m) :=
  pe_imp (pe_callTy hc hg hm hv ha hn hdb he hpl) fun _ _ _ q => tL hf q
def absM : List AV → M AV := fun vs st => match vs with
  | [.int i] => .ok (.int (if i < 0 then -i else i)) st
  | _ => .stuck
theorem ol_abs : OpL X G W (fun xs H Q => ∃ i, xs = [.int i] ∧ Q (.int (if i < 0 then -i else i)) H) absM := fun xs σ H Q q => by
  obtain ⟨ρ, fr, st, avs, r, hv, p⟩ := q.unL
  unfold absM at p
  split at p
  · cases hv with
    | cons h t => cases h; cases t; exact ⟨_, rfl, p ρ H (Stp.refl _ _) r _ (.int _)⟩
  · exact p.elim
def lenM : List AV → M AV := fun vs st => match vs with
  | [v] => (match deS st v with
    | some xs => .ok (.int xs.length) st
    | none => .stuck)
  | _ => .stuck
theorem ol_len : OpL X G W (fun xs H Q => ∃ p ys, xs = [.ref p] ∧ (SqL X.K H p ys ∨ SqT X.K H p ys) ∧ Q (.int ys.length) H) lenM := fun xs σ H Q q => by
  obtain ⟨ρ, fr, st, avs, r, hv, p⟩ := q.unL
  unfold lenM at p
  split at p
  · split at p
    · rename_i v ys hy
      cases hv with
      | cons h t =>
        cases t
        obtain ⟨a, vs, rfl, hs, hr⟩ := deS_ok r h hy
        refine ⟨a, vs, rfl, hs, ?_⟩
        rw [← hr.len]
        exact p ρ H (Stp.refl _ _) r _ (.int _)
    · exact p.elim
  · exact p.elim
def asBls : List AV → Option (List Bool)
  | [] => some []
  | .bl b :: r => (match asBls r with
    | some bs => some (b :: bs)
    | none => none)
  | _ :: _ => none
theorem asBls_ok {c : MC} {ρ : Rho} {H : Hp} : ∀ {xs : List AV} {vs : List V} {bs : List Bool}, VRs c ρ H xs vs → asBls xs = some bs → vs = bs.map V.bl
  | [], _, _, .nil, e => by cases e; rfl
  | x :: r, _, bs, .cons h t, e => by
    unfold asBls at e
    split at e
    · rename_i heq; cases heq
    · rename_i b r' heq
      cases heq
      split at e
      · rename_i bs' hb
        cases e
        cases h
        rw [asBls_ok t hb]
        rfl
      · cases e
    · cases e
@[simp] theorem asBls_map (bs : List Bool) : asBls (bs.map AV.bl) = some bs := by
  induction bs with
  | nil => rfl
  | cons b r ih => simp [asBls, ih]
def allM : List AV → M AV := fun vs st => match vs with
  | [v] => (match deL st v with
    | some xs => (match asBls xs with
      | some bs => .ok (.bl (bs.all id)) st
      | none => .stuck)
    | none => .stuck)
  | _ => .stuck
def anyM : List AV → M AV := fun vs st => match vs with
  | [v] => (match deL st v with
    | some xs => (match asBls xs with
      | some bs => .ok (.bl (bs.any id)) st
      | none => .stuck)
    | none => .stuck)
  | _ => .stuck
end
end MM
set_option Elab.async false
set_option linter.all false
set_option maxRecDepth 100000
set_option maxHeartbeats 4000000
/-! The mirror's tests, equality, membership, isinstance, slices, tuple(..). -/
namespace MM
open PySem PySem.Spec PyProof.Rows L2
section
variable {X : Cx} {G : String → Option Addr} {W : WX} {e a b c3 : Expr} {es : List Expr} {pos p : Pos} {ma mb mc : Fr → M AV} {tb tc : Fr → M Bool}
theorem ol_all : OpL X G W (rAll X.K) allM := fun xs σ H Q q => by
  obtain ⟨ρ, fr, st, avs, r, hv, p⟩ := q.unL
  unfold allM at p
  split at p
  · split at p
    · split at p
      · rename_i v _ ys hy _ bs hb
        cases hv with
        | cons h t =>
          cases t
          obtain ⟨a, vs, rfl, hs, hr⟩ := deL_ok r h hy
          have e := asBls_ok hr hb
          subst e
          exact ⟨a, bs, rfl, .inl hs, p ρ H (Stp.refl _ _) r _ (.bl _)⟩
      · exact p.elim
    · exact p.elim
  · exact p.elim
theorem ol_any : OpL X G W (rAny X.K) anyM := fun xs σ H Q q => by
  obtain ⟨ρ, fr, st, avs, r, hv, p⟩ := q.unL
  unfold anyM at p
  split at p
  · split at p
    · split at p
      · rename_i v _ ys hy _ bs hb
        cases hv with
        | cons h t =>
          cases t
          obtain ⟨a, vs, rfl, hs, hr⟩ := deL_ok r h hy
          have e := asBls_ok hr hb
          subst e
          exact ⟨a, bs, rfl, .inl hs, p ρ H (Stp.refl _ _) r _ (.bl _)⟩
      · exact p.elim
    · exact p.elim
  · exact p.elim

/-! ### tests -/
def bAnd (t u : Fr → M Bool) : Fr → M Bool := fun fr st => (t fr st).bind fun b st1 => if b = true then u fr st1 else .ok false st1
def bOr (t u : Fr → M Bool) : Fr → M Bool := fun fr st => (t fr st).bind fun b st1 => if b = true then .ok true st1 else u fr st1
def bNot (t : Fr → M Bool) : Fr → M Bool := fun fr st => (t fr st).bind fun b st1 => .ok (!b) st1
theorem mw_and1 {t : Fr → M Bool} (h : MT X G W a t) : MW X G W (.BoolOp .And [a] pos) t := pw_and1 h
theorem mw_or1 {t : Fr → M Bool} (h : MT X G W a t) : MW X G W (.BoolOp .Or [a] pos) t := pw_or1 h
theorem tG.if_ {c : MC} {β : Type} {vs : List V} {b : Bool} {m n : List AV → Fr → M β} {P : β → Rho → Hp → Prop} {σ : L2.St} {H : Hp} (h : tG c W vs (fun avs fr st => if b = true then m avs fr st else n avs fr st) P σ H) : if b = true then tG c W vs m P σ H else tG c W vs n P σ H := by
  obtain ⟨ρ, fr, st, avs, r, q, p⟩ := h
  cases b with
  | true => exact ⟨ρ, fr, st, avs, r, q, p⟩
  | false => exact ⟨ρ, fr, st, avs, r, q, p⟩
theorem tG.done {c : MC} {β : Type} {vs : List V} {a : β} {P : β → Rho → Hp → Prop} {σ : L2.St} {H : Hp} (h : tG c W vs (fun _ _ st => .ok a st) P σ H) : ∃ ρ, P a ρ H := by
  obtain ⟨ρ, fr, st, avs, r, q, p⟩ := h
  exact ⟨ρ, p ρ H (Stp.refl _ _) r⟩
theorem mw_and {t u : Fr → M Bool} (h : MT X G W a t) (hr : MW X G W (.BoolOp .And (b :: es) pos) u) : MW X G W (.BoolOp .And (a :: b :: es) pos) (bAnd t u) := pw_imp (pw_and h hr) fun σ H Q q => by
  have q1 := bindB (c := cx X G) (W := W) (vs := []) (m := t) (k := fun b avs fr st => if b = true then u fr st else .ok false st) q
  refine tG.imp q1 fun b ρ H1 h1 => ?_
  cases b with
  | true => exact h1
  | false => exact h1.done.elim fun _ z => z
theorem mw_or {t u : Fr → M Bool} (h : MT X G W a t) (hr : MW X G W (.BoolOp .Or (b :: es) pos) u) : MW X G W (.BoolOp .Or (a :: b :: es) pos) (bOr t u) := pw_imp (pw_or h hr) fun σ H Q q => by
  have q1 := bindB (c := cx X G) (W := W) (vs := []) (m := t) (k := fun b avs fr st => if b = true then .ok true st else u fr st) q
  refine tG.imp q1 fun b ρ H1 h1 => ?_
  cases b with
  | true => exact h1.done.elim fun _ z => z
  | false => exact h1
theorem mt_not {t : Fr → M Bool} (h : MT X G W a t) : MT X G W (.UnaryOp .Not a pos) (bNot t) := pt_imp (pt_not h) fun σ H Q q => by
  have q1 := bindB (c := cx X G) (W := W) (vs := []) (m := t) (k := fun b avs fr st => .ok (!b) st) q
  exact tG.imp q1 fun b ρ H1 h1 => h1.done.elim fun _ z => z
theorem mt_w {t : Fr → M Bool} (h : MW X G W a t) : MT X G W a t := PW.pt h
/-- and, or, not as values: the first ones are truths -/
def vAnd (m n : Fr → M AV) : Fr → M AV := fun fr st => (m fr st).bind fun v st1 => match v with
  | .bl true => n fr st1
  | .bl false => .ok (.bl false) st1
  | _ => .stuck
def vOr (m n : Fr → M AV) : Fr → M AV := fun fr st => (m fr st).bind fun v st1 => match v with
  | .bl true => .ok (.bl true) st1
  | .bl false => n fr st1
  | _ => .stuck
def vNot (m : Fr → M AV) : Fr → M AV := fun fr st => (m fr st).bind fun v st1 => match v with
  | .bl b => .ok (.bl (!b)) st1
  | _ => .stuck
theorem me_one {op : BoolOp} {m : Fr → M AV} (h : ME X G W a m) : ME X G W (.BoolOp op [a] pos) m := pe_one h
theorem me_and {m n : Fr → M AV} (h : ME X G W a m) (hr : ME X G W (.BoolOp .And (b :: es) pos) n) : ME X G W (.BoolOp .And (a :: b :: es) pos) (vAnd m n) := pe_imp (pe_and h hr) fun σ H Q q => by
  have q1 := bindV (c := cx X G) (W := W) (vs := []) (m := m) (k := fun avs fr st => match avs with
    | [.bl true] => n fr st
    | [.bl false] => .ok (.bl false) st
    | _ => .stuck) (tG.nil (by
      obtain ⟨ρ, fr, st, avs, r, _, p⟩ := q
      refine ⟨ρ, fr, st, [], r, .nil, ?_⟩
      have e : (m fr st).bind (fun v st1 => match v with
        | .bl true => n fr st1
        | .bl false => .ok (.bl false) st1
        | _ => .stuck) = (m fr st).bind (fun v => fun st1 => match ([] ++ [v] : List AV) with
        | [.bl true] => n fr st1
        | [.bl false] => .ok (.bl false) st1
        | _ => .stuck) := by
        congr 1
        funext v st1
        cases v <;> try rfl
        rename_i z
        cases z <;> rfl
      show Pst _ _ _ _ _ _ _ ((m fr st).bind _)
      rw [← e]
      exact p))
  refine tG.imp q1 fun v ρ H1 h1 x hx => ?_
  obtain ⟨ρ2, fr2, st2, avs2, r2, q2, p2⟩ := h1 x hx
  cases q2 with
  | cons hv t =>
    cases t
    cases hv <;> first
      | (rename_i z; cases z <;> first
          | exact ⟨_, rfl, p2 ρ2 H1 (Stp.refl _ _) r2 _ (.bl _)⟩
          | exact ⟨_, rfl, ⟨ρ2, fr2, st2, [], r2, .nil, p2⟩⟩)
      | exact p2.elim
theorem me_or {m n : Fr → M AV} (h : ME X G W a m) (hr : ME X G W (.BoolOp .Or (b :: es) pos) n) : ME X G W (.BoolOp .Or (a :: b :: es) pos) (vOr m n) := pe_imp (pe_or h hr) fun σ H Q q => by
  have q1 := bindV (c := cx X G) (W := W) (vs := []) (m := m) (k := fun avs fr st => match avs with
    | [.bl true] => .ok (.bl true) st
    | [.bl false] => n fr st
    | _ => .stuck) (tG.nil (by
      obtain ⟨ρ, fr, st, avs, r, _, p⟩ := q
      refine ⟨ρ, fr, st, [], r, .nil, ?_⟩
      have e : (m fr st).bind (fun v st1 => match v with
        | .bl true => .ok (.bl true) st1
        | .bl false => n fr st1
        | _ => .stuck) = (m fr st).bind (fun v => fun st1 => match ([] ++ [v] : List AV) with
        | [.bl true] => .ok (.bl true) st1
        | [.bl false] => n fr st1
        | _ => .stuck) := by
        congr 1
        funext v st1
        cases v <;> try rfl
        rename_i z
        cases z <;> rfl
      show Pst _ _ _ _ _ _ _ ((m fr st).bind _)
      rw [← e]
      exact p))
  refine tG.imp q1 fun v ρ H1 h1 x hx => ?_
  obtain ⟨ρ2, fr2, st2, avs2, r2, q2, p2⟩ := h1 x hx
  cases q2 with
  | cons hv t =>
    cases t
    cases hv <;> first
      | (rename_i z; cases z <;> first
          | exact ⟨_, rfl, p2 ρ2 H1 (Stp.refl _ _) r2 _ (.bl _)⟩
          | exact ⟨_, rfl, ⟨ρ2, fr2, st2, [], r2, .nil, p2⟩⟩)
      | exact p2.elim
def notM : AV → M AV := fun v st => match v with
  | .bl b => .ok (.bl (!b)) st
  | _ => .stuck
theorem me_not {m : Fr → M AV} (h : ME X G W a m) : ME X G W (.UnaryOp .Not a pos) (m1 notM m) := pe_imp (pe_not h) fun σ H Q q =>
  t1 (r := fun x H1 Q => ∃ c, x = .bl c ∧ Q (.bl (!c)) H1) (fun x σ H Q q => by
    obtain ⟨ρ, fr, st, v, r, hv, p⟩ := q.un1
    unfold notM at p
    split at p
    · cases hv; exact ⟨_, rfl, p ρ H (Stp.refl _ _) r _ (.bl _)⟩
    · exact p.elim) q
/-- a if t else b -/
def mIf (t : Fr → M Bool) (m n : Fr → M AV) : Fr → M AV := fun fr st => (t fr st).bind fun b st1 => if b = true then m fr st1 else n fr st1
theorem me_if {t : Fr → M Bool} {m n : Fr → M AV} {c : Expr} (hc : MT X G W c t) (ha : ME X G W a m) (hb : ME X G W b n) : ME X G W (.IfExp c a b pos) (mIf t m n) := pe_imp (pe_ifExp hc ha hb) fun σ H Q q => by
  have q1 := bindB (c := cx X G) (W := W) (vs := []) (m := t) (k := fun b avs fr st => if b = true then m fr st else n fr st) q
  refine tG.imp q1 fun b ρ H1 h1 => ?_
  cases b with
  | true => exact h1
  | false => exact h1
/-- a < b < c -/
def m3 (f g : AV → AV → M AV) (ma mb mc : Fr → M AV) : Fr → M AV := fun fr st => (ma fr st).bind fun v st1 => (mb fr st1).bind fun w st2 => (f v w st2).bind fun z st3 => match z with
  | .bl true => (mc fr st3).bind fun u st4 => g w u st4
  | .bl false => .ok (.bl false) st3
  | _ => .stuck
/-- a rule on two values, then k with its answer -/
theorem bindO {r : R2} {f : AV → AV → M AV} {β : Type} {P : β → Rho → Hp → Prop} {x y : V} {σ : L2.St} {H : Hp} (hf : Op2 X G W r f) {k : List AV → Fr → M β} (h : tG (cx X G) W [x, y] (fun avs fr st => (ap2 f avs fr st).bind fun z => k (avs ++ [z]) fr) P σ H) :
    ∀ {Q' : VK}, (∀ z H3, tG (cx X G) W [x, y, z] k P σ H3 → Q' z H3) → r x y H Q' := by
  intro Q' hQ
  refine hf x y σ H _ ?_
  obtain ⟨ρ, fr, st, avs, r', q, p⟩ := h
  refine ⟨ρ, fr, st, avs, r', q, ?_⟩
  cases e : ap2 f avs fr st with
  | ok z st1 =>
    simp only [e, R.bind_ok] at p
    exact fun ρ' H' s r1 zv hz => hQ _ _ ⟨ρ', fr, st1, avs ++ [z], r1, (q.mono s).app (.cons hz .nil), p.mono s⟩
  | exc x st1 => simp only [e, R.bind_exc] at p; exact p
  | stuck => simp only [e, R.bind_stuck] at p; exact p.elim
theorem tChainM {r r' : R2} {f g : AV → AV → M AV} (hf : Op2 X G W r f) (hg : Op2 X G W r' g) {σ : L2.St} {H : Hp} {Q : VK} (q : tM (cx X G) W (m3 f g ma mb mc) σ H Q) : tChain r r' (tM (cx X G) W ma) (tM (cx X G) W mb) (tM (cx X G) W mc) σ H Q := by
  have q1 := bindV (c := cx X G) (W := W) (vs := []) (m := ma) (k := fun avs fr st => match avs with
    | [v] => (mb fr st).bind fun w st2 => (f v w st2).bind fun z st3 => match z with
      | .bl true => (mc fr st3).bind fun u st4 => g w u st4
      | .bl false => .ok (.bl false) st3
      | _ => .stuck
    | _ => .stuck) (tG.nil q)
  refine tG.imp q1 fun v ρ H1 h1 x hx => ?_
  have q2 := bindV (c := cx X G) (W := W) (vs := [x]) (m := mb) (k := fun avs fr st => match avs with
    | [v, w] => (f v w st).bind fun z st3 => match z with
      | .bl true => (mc fr st3).bind fun u st4 => g w u st4
      | .bl false => .ok (.bl false) st3
      | _ => .stuck
    | _ => .stuck) (by
      obtain ⟨ρ, fr, st, avs, r, q, p⟩ := h1 x hx
      cases q with
      | cons h t => cases t; exact ⟨ρ, fr, st, _, r, .cons h .nil, p⟩)
  refine tG.imp q2 fun w ρ2 H2 h2 y hy => ?_
  refine bindO (β := AV) (P := PV (cx X G) Q) hf (x := x) (y := y) (σ := σ) (H := H2) (k := fun avs fr st => match avs with
    | [v, w, .bl true] => (mc fr st).bind fun u st4 => g w u st4
    | [v, w, .bl false] => .ok (.bl false) st
    | _ => .stuck) (by
      obtain ⟨ρ, fr, st, avs, r, q, p⟩ := h2 y hy
      cases q with
      | cons h t =>
        cases t with
        | cons h' t =>
          cases t
          rename_i v' w'
          refine ⟨ρ, fr, st, _, r, .cons h (.cons h' .nil), ?_⟩
          have e : (f v' w' st).bind (fun z st3 => match z with
              | .bl true => (mc fr st3).bind fun u st4 => g w' u st4
              | .bl false => .ok (.bl false) st3
              | _ => .stuck) = (f v' w' st).bind (fun z => fun st => match ([v', w'] ++ [z] : List AV) with
              | [v, w, .bl true] => (mc fr st).bind fun u st4 => g w u st4
              | [v, w, .bl false] => .ok (.bl false) st
              | _ => .stuck) := by
            congr 1
            funext z st1
            cases z <;> try rfl
            rename_i z
            cases z <;> rfl
          show Pst _ _ _ _ _ _ _ ((f v' w' st).bind _)
          rw [← e]
          exact p) fun z H3 h3 => ?_
  obtain ⟨ρ, fr, st, avs, r, q, p⟩ := h3
  cases q with
  | cons h t =>
    cases t with
    | cons h' t =>
      cases t with
      | cons hz t =>
        cases t
        cases hz <;> first
          | exact p.elim
          | (rename_i b
             cases b with
             | false => exact ⟨_, rfl, p ρ H3 (Stp.refl _ _) r _ (.bl _)⟩
             | true =>
               refine ⟨_, rfl, ?_⟩
               rw [if_pos rfl]
               have q4 := bindV (c := cx X G) (W := W) (P := PV (cx X G) Q) (vs := [y]) (m := mc) (σ := σ) (H := H3) (k := ap2 g) ⟨ρ, fr, st, [_], r, .cons h' .nil, p⟩
               exact tG.imp q4 fun u ρ5 H5 h5 uu hu => hg _ _ σ H5 Q (h5 uu hu))
theorem me_chain {op op' : CmpOp} {r r' : R2} {f g : AV → AV → M AV} (ho : OpR X (compareOp op) r) (ho' : OpR X (compareOp op') r') (hf : Op2 X G W r f) (hg : Op2 X G W r' g) (ha : ME X G W a ma) (hb : ME X G W b mb) (hc : ME X G W c3 mc)
    (hm : lastMarks [op, op'] [b, c3] = false := by with_unfolding_all rfl) : ME X G W (.Compare a [op, op'] [b, c3] pos) (m3 f g ma mb mc) := pe_imp (pe_chain ho ho' ha hb hc hm) fun σ H Q q => tChainM hf hg q
theorem mt_chain {op op' : CmpOp} {r r' : R2} {f g : AV → AV → M AV} (ho : OpR X (compareOp op) r) (ho' : OpR X (compareOp op') r') (hf : Op2 X G W r f) (hg : Op2 X G W r' g) (ha : ME X G W a ma) (hb : ME X G W b mb) (hc : ME X G W c3 mc)
    (hm : lastMarks [op, op'] [b, c3] = false := by with_unfolding_all rfl) : MT X G W (.Compare a [op, op'] [b, c3] pos) (mB (m3 f g ma mb mc)) := pt_imp (pt_chain ho ho' ha hb hc hm) fun σ H Q q => tChainM hf hg (tTestM q)
end
end MM
set_option Elab.async false
set_option linter.all false
set_option maxRecDepth 100000
set_option maxHeartbeats 4000000
/-! The mirror's equality, membership, isinstance, slices, tuple(..). -/
namespace MM
open PySem PySem.Spec PyProof.Rows L2

/-! ### data as the library reads it -/
mutual
def pd : AV → Option PyData
  | .non => some .none
  | .bl b => some (.bool b)
  | .int i => some (.int i)
  | .str x => some (.str x)
  | .tup xs => match pds xs with
    | some ds => some (.tuple ds)
    | none => none
  | .ktup xs => match pds xs with
    | some ds => some (.tuple ds)
    | none => none
  | .lst xs => match pds xs with
    | some ds => some (.list ds)
    | none => none
  | .dk _ => none
  | .dt _ => none
  | .ins _ _ => none
  | .ptr _ => none
  | .glo _ => none
  | .ty _ => none
def pds : List AV → Option (List PyData)
  | [] => some []
  | x :: xs => match pd x, pds xs with
    | some d, some ds => some (d :: ds)
    | _, _ => none
end
def top (st : Sto) : AV → AV
  | .ptr n => match st[n]? with
    | some (.lst xs) => .lst xs
    | _ => .ptr n
  | v => v
/-- shaped data -/
def pdS (st : Sto) (v : AV) : Option PyData := match pd (top st v) with
  | some d => if SeqAt.shaped d = true then some d else none
  | none => none
section
variable {c : MC} {ρ : Rho} {H : Hp} {fr : Fr} {st : Sto} {σ : L2.St}
mutual
theorem pd_ok : ∀ {v : AV} {x : V} {d : PyData}, VR c ρ H v x → pd v = some d → Dp c.K H x d
  | _, _, _, .non, e => by simp only [pd, Option.some.injEq] at e; subst e; exact .non
  | _, _, _, .bl b, e => by simp only [pd, Option.some.injEq] at e; subst e; exact .bl b
  | _, _, _, .int b, e => by simp only [pd, Option.some.injEq] at e; subst e; exact .int b
  | _, _, _, .str b, e => by simp only [pd, Option.some.injEq] at e; subst e; exact .str b
  | _, _, _, .tup h r, e => by
    simp only [pd] at e
    split at e
    · rename_i ds hd
      cases e
      exact .tup (.of h) (pds_ok r hd)
    · cases e
  | _, _, _, .ktup h r, e => by
    simp only [pd] at e
    split at e
    · rename_i ds hd
      cases e
      exact .tup h.sq (pds_ok r hd)
    · cases e
  | _, _, _, .lst h n r, e => by
    simp only [pd] at e
    split at e
    · rename_i ds hd
      cases e
      exact .lst (.inl h) (pds_ok r hd)
    · cases e
  | _, _, _, .ty _, e => by simp [pd] at e
  | _, _, _, .dk _ _ _, e => by simp [pd] at e
  | _, _, _, .dt _ _ _, e => by simp [pd] at e
  | _, _, _, .ins _ _ _ _, e => by simp [pd] at e
  | _, _, _, .ptr _, e => by simp [pd] at e
  | _, _, _, .glo _, e => by simp [pd] at e
theorem pds_ok : ∀ {v : List AV} {x : List V} {d : List PyData}, VRs c ρ H v x → pds v = some d → DpAll c.K H x d
  | _, _, _, .nil, e => by simp only [pds, Option.some.injEq] at e; subst e; exact .nil
  | _, _, _, .cons h r, e => by
    simp only [pds] at e
    split at e
    · rename_i d ds h1 h2
      cases e
      exact .cons (pd_ok h h1) (pds_ok r h2)
    · cases e
end
theorem pdS_ok (r : Rep c ρ fr st σ H) {v : AV} {x : V} {d : PyData} (h : VR c ρ H v x) (e : pdS st v = some d) : Dp c.K H x d ∧ SeqAt.shaped d = true := by
  unfold pdS at e
  split at e
  · rename_i d' hd
    split at e
    · rename_i hs
      cases e
      refine ⟨?_, hs⟩
      cases h with
      | @ptr n a hp =>
        simp only [top] at hd
        split at hd
        · rename_i xs hx
          simp only [pd] at hd
          split at hd
          · rename_i ds hds
            cases hd
            obtain ⟨b, u, e1, e2, e3⟩ := r.ob n _ hx
            rw [hp] at e1
            cases e1
            cases e3 with
            | lst q => exact .lst (.inl (.inl e2)) (pds_ok q hds)
          · cases hd
        · simp [pd] at hd
      | non => exact pd_ok (c := c) (ρ := ρ) (H := H) .non hd
      | bl b => exact pd_ok (c := c) (ρ := ρ) (H := H) (.bl b) hd
      | int b => exact pd_ok (c := c) (ρ := ρ) (H := H) (.int b) hd
      | str b => exact pd_ok (c := c) (ρ := ρ) (H := H) (.str b) hd
      | ty b => exact pd_ok (c := c) (ρ := ρ) (H := H) (.ty b) hd
      | tup a b => exact pd_ok (.tup a b) hd
      | ktup a b => exact pd_ok (.ktup a b) hd
      | lst a b q => exact pd_ok (.lst a b q) hd
      | dk a b q => exact pd_ok (.dk a b q) hd
      | dt a b q => exact pd_ok (.dt a b q) hd
      | ins g a b q => exact pd_ok (.ins g a b q) hd
      | glo b => exact pd_ok (c := c) (ρ := ρ) (H := H) (.glo b) hd
    · cases e
  · cases e
end

section
variable {X : Cx} {G : String → Option Addr} {W : WX} {e a b c3 : Expr} {es : List Expr} {pos p : Pos} {ma mb mc : Fr → M AV}
def eqM : AV → AV → M AV := fun v w st => match pdS st v, pdS st w with
  | some d, some e => .ok (.bl (PyData.eqv d e)) st
  | _, _ => .stuck
def neM : AV → AV → M AV := fun v w st => match pdS st v, pdS st w with
  | some d, some e => .ok (.bl (!PyData.eqv d e)) st
  | _, _ => .stuck
theorem o_eq : Op2 X G W (rEqD X.K) eqM := fun x y σ H Q q => by
  obtain ⟨ρ, fr, st, v, w, r, hv, hw, p⟩ := q.un2
  unfold eqM at p
  split at p
  · rename_i d e hd he
    obtain ⟨d1, d2⟩ := pdS_ok r hv hd
    obtain ⟨e1, e2⟩ := pdS_ok r hw he
    exact ⟨d, e, d1, e1, d2, e2, p ρ H (Stp.refl _ _) r _ (.bl _)⟩
  · exact p.elim
theorem o_ne : Op2 X G W (rNeD X.K) neM := fun x y σ H Q q => by
  obtain ⟨ρ, fr, st, v, w, r, hv, hw, p⟩ := q.un2
  unfold neM at p
  split at p
  · rename_i d e hd he
    obtain ⟨d1, d2⟩ := pdS_ok r hv hd
    obtain ⟨e1, e2⟩ := pdS_ok r hw he
    exact ⟨d, e, d1, e1, d2, e2, p ρ H (Stp.refl _ _) r _ (.bl _)⟩
  · exact p.elim

/-! ### keys, dicts -/
def keyK : AV → Option Key
  | .int i => some (.inl i)
  | .str s => some (.inr s)
  | _ => none
def keysK : List AV → Option (List Key)
  | [] => some []
  | x :: r => match keyK x, keysK r with
    | some k, some ks => some (k :: ks)
    | _, _ => none
def keyT : AV → Option (List Key)
  | .tup xs => keysK xs
  | _ => none
theorem keyK_ok {c : MC} {ρ : Rho} {H : Hp} {v : AV} {x : V} {k : Key} (h : VR c ρ H v x) (e : keyK v = some k) : x = kV k := by
  cases h <;> first
    | (simp only [keyK, Option.some.injEq] at e; subst e; rfl)
    | (simp [keyK] at e)
theorem keysK_ok {c : MC} {ρ : Rho} {H : Hp} : ∀ {v : List AV} {x : List V} {k : List Key}, VRs c ρ H v x → keysK v = some k → x = k.map kV
  | _, _, _, .nil, e => by simp only [keysK, Option.some.injEq] at e; subst e; rfl
  | _, _, _, .cons h r, e => by
    simp only [keysK] at e
    split at e
    · rename_i k ks h1 h2
      cases e
      rw [keyK_ok h h1, keysK_ok r h2]
      rfl
    · cases e
theorem keyT_ok {c : MC} {ρ : Rho} {H : Hp} {v : AV} {x : V} {k : List Key} (h : VR c ρ H v x) (e : keyT v = some k) : ∃ b, x = .ref b ∧ H b = some (.tup (k.map kV)) := by
  cases h with
  | tup h r =>
    have e' := keysK_ok r e
    subst e'
    exact ⟨_, rfl, h⟩
  | _ => simp [keyT] at e
/-- a dict's contents -/
inductive DC where
  | k (kvs : List (Key × AV))
  | t (kvs : List (List Key × AV))
def deD (st : Sto) : AV → Option DC
  | .dk kvs => some (.k kvs)
  | .dt kvs => some (.t kvs)
  | .ptr n => match st[n]? with
    | some (.dk kvs) => some (.k kvs)
    | some (.dt kvs) => some (.t kvs)
    | _ => none
  | _ => none
def DCR (c : MC) (ρ : Rho) (H : Hp) (a : Addr) : DC → Prop
  | .k kvs => ∃ kws, Rd H a (.dK kws) ∧ VRk c ρ H kvs kws
  | .t kvs => ∃ kws, Rd H a (.dT kws) ∧ VRt c ρ H kvs kws
theorem deD_ok {c : MC} {ρ : Rho} {H : Hp} {fr : Fr} {st : Sto} {σ : L2.St} (r : Rep c ρ fr st σ H) {v : AV} {x : V} {d : DC} (h : VR c ρ H v x) (e : deD st v = some d) : ∃ a, x = .ref a ∧ DCR c ρ H a d := by
  cases h with
  | dk h n q => simp only [deD, Option.some.injEq] at e; subst e; exact ⟨_, rfl, _, h, q⟩
  | dt h n q => simp only [deD, Option.some.injEq] at e; subst e; exact ⟨_, rfl, _, h, q⟩
  | @ptr n a hp =>
    simp only [deD] at e
    split at e
    · rename_i kvs hx
      cases e
      obtain ⟨b, u, e1, e2, e3⟩ := r.ob n _ hx
      rw [hp] at e1
      cases e1
      cases e3 with
      | dk q => exact ⟨_, rfl, _, .inl e2, q⟩
    · rename_i kvs hx
      cases e
      obtain ⟨b, u, e1, e2, e3⟩ := r.ob n _ hx
      rw [hp] at e1
      cases e1
      cases e3 with
      | dt q => exact ⟨_, rfl, _, .inl e2, q⟩
    · cases e
  | _ => simp [deD] at e
/-- look up by key -/
def luk {κ : Type} [DecidableEq κ] (kvs : List (κ × AV)) (k : κ) : Option AV := (kvs.find? fun kv => decide (kv.1 = k)).map (·.2)
theorem luk_k {c : MC} {ρ : Rho} {H : Hp} {k : Key} : ∀ {kvs : List (Key × AV)} {kws : List (Key × V)}, VRk c ρ H kvs kws → (luk kvs k = none ∧ valV kws k = none) ∨ ∃ v x, luk kvs k = some v ∧ valV kws k = some x ∧ VR c ρ H v x
  | _, _, .nil => .inl ⟨rfl, rfl⟩
  | _, _, .cons (k := k') h r => by
    by_cases e : k' = k
    · exact .inr ⟨_, _, by simp [luk, List.find?_cons, e], by simp [valV, List.find?_cons, e], h⟩
    · rcases luk_k (k := k) r with ⟨h1, h2⟩ | ⟨v, x, h1, h2, h3⟩
      · exact .inl ⟨by simpa [luk, List.find?_cons, e] using h1, by simpa [valV, List.find?_cons, e] using h2⟩
      · exact .inr ⟨v, x, by simpa [luk, List.find?_cons, e] using h1, by simpa [valV, List.find?_cons, e] using h2, h3⟩
theorem luk_t {c : MC} {ρ : Rho} {H : Hp} {k : List Key} : ∀ {kvs : List (List Key × AV)} {kws : List (List Key × V)}, VRt c ρ H kvs kws → (luk kvs k = none ∧ valV kws k = none) ∨ ∃ v x, luk kvs k = some v ∧ valV kws k = some x ∧ VR c ρ H v x
  | _, _, .nil => .inl ⟨rfl, rfl⟩
  | _, _, .cons (k := k') h r => by
    by_cases e : k' = k
    · exact .inr ⟨_, _, by simp [luk, List.find?_cons, e], by simp [valV, List.find?_cons, e], h⟩
    · rcases luk_t (k := k) r with ⟨h1, h2⟩ | ⟨v, x, h1, h2, h3⟩
      · exact .inl ⟨by simpa [luk, List.find?_cons, e] using h1, by simpa [valV, List.find?_cons, e] using h2⟩
      · exact .inr ⟨v, x, by simpa [luk, List.find?_cons, e] using h1, by simpa [valV, List.find?_cons, e] using h2, h3⟩
/-- d.get(k): none of a key that can't be asked -/
def dget (st : Sto) (d k : AV) : Option (Option AV) := match deD st d with
  | some (.k kvs) => (match keyK k with
    | some k => some (luk kvs k)
    | none => none)
  | some (.t kvs) => (match keyT k with
    | some k => some (luk kvs k)
    | none => none)
  | none => none
theorem dget_ok {c : MC} {ρ : Rho} {H : Hp} {fr : Fr} {st : Sto} {σ : L2.St} (r : Rep c ρ fr st σ H) {d k : AV} {x y : V} {o : Option AV} (h : VR c ρ H d x) (hk : VR c ρ H k y) (e : dget st d k = some o) :
    ∃ a o', x = .ref a ∧ DGet H a y o' ∧ ((o = none ∧ o' = none) ∨ ∃ v z, o = some v ∧ o' = some z ∧ VR c ρ H v z) := by
  unfold dget at e
  split at e
  · rename_i kvs hd
    split at e
    · rename_i k' hk'
      cases e
      obtain ⟨a, rfl, kws, h1, h2⟩ := deD_ok r h hd
      have ey := keyK_ok hk hk'
      subst ey
      rcases luk_k (k := k') h2 with ⟨l1, l2⟩ | ⟨v, z, l1, l2, l3⟩
      · exact ⟨a, _, rfl, .inl ⟨kws, k', h1, rfl, rfl⟩, .inl ⟨l1, l2⟩⟩
      · exact ⟨a, _, rfl, .inl ⟨kws, k', h1, rfl, rfl⟩, .inr ⟨v, z, l1, l2, l3⟩⟩
    · cases e
  · rename_i kvs hd
    split at e
    · rename_i k' hk'
      cases e
      obtain ⟨a, rfl, kws, h1, h2⟩ := deD_ok r h hd
      obtain ⟨b, rfl, eb⟩ := keyT_ok hk hk'
      rcases luk_t (k := k') h2 with ⟨l1, l2⟩ | ⟨v, z, l1, l2, l3⟩
      · exact ⟨a, _, rfl, .inr ⟨kws, k', b, h1, rfl, eb, rfl⟩, .inl ⟨l1, l2⟩⟩
      · exact ⟨a, _, rfl, .inr ⟨kws, k', b, h1, rfl, eb, rfl⟩, .inr ⟨v, z, l1, l2, l3⟩⟩
    · cases e
  · cases e
def rDIn (neg : Bool) : R2 := fun y x H Q => ∃ a o, x = .ref a ∧ DGet H a y o ∧ Q (.bl (if neg then !o.isSome else o.isSome)) H
theorem op_din (hu : X.A.units + 1 < cLine) : OpR X (compareOp .In) (rDIn false) := by
  intro pins s σ H y x u v Q I ry rx h
  obtain ⟨a, o, ex, g, q⟩ := h
  subst ex
  obtain rfl : v = Value.ref a := rx
  exact d_in hu I g ry fun s3 I3 => ⟨.bl o.isSome, H, I3, rfl, q⟩
theorem op_dnotin (hu : X.A.units + 1 < cLine) : OpR X (compareOp .NotIn) (rDIn true) := by
  intro pins s σ H y x u v Q I ry rx h
  obtain ⟨a, o, ex, g, q⟩ := h
  subst ex
  obtain rfl : v = Value.ref a := rx
  exact d_notIn hu I g ry fun s3 I3 => ⟨.bl (!o.isSome), H, I3, rfl, q⟩
/-- x in a list or a tuple of data -/
def rInS (K : PySem.W.Frag) (neg : Bool) : R2 := fun x y H Q => ∃ d ds, Dp K H x d ∧ (Dp K H y (.list ds) ∧ SeqAt.shaped (.list ds) = true ∨ Dp K H y (.tuple ds) ∧ SeqAt.shaped (.tuple ds) = true) ∧ SeqAt.shaped d = true ∧ Q (.bl (if neg then !(ds.any fun z => PyData.eqv z d) else ds.any fun z => PyData.eqv z d)) H
theorem op_inS' (hu : X.A.units + 65 < cLine) : OpR X (compareOp .In) (rInS X.K false) := by
  intro pins s σ H x y v u Q I rx ry h
  obtain ⟨d, ds, hd, he, sd, q⟩ := h
  obtain ⟨as, r1⟩ := Dp.reads I d x v hd rx
  rcases he with ⟨he, se⟩ | ⟨he, se⟩
  · obtain ⟨bs, r2⟩ := Dp.reads I (.list ds) y u he ry
    exact SeqAt.in_list_reads r2 r1 (SeqAt.canLay_of_shaped se) (SeqAt.canLay_of_shaped sd) (room_in_shaped sd hu) ⟨.bl _, H, I, rfl, q⟩
  · obtain ⟨bs, r2⟩ := Dp.reads I (.tuple ds) y u he ry
    exact SeqAt.in_tuple_reads r2 r1 (SeqAt.canLay_of_shaped se) (SeqAt.canLay_of_shaped sd) (room_in_shaped sd hu) ⟨.bl _, H, I, rfl, q⟩
theorem op_notInS' (hu : X.A.units + 65 < cLine) : OpR X (compareOp .NotIn) (rInS X.K true) := by
  intro pins s σ H x y v u Q I rx ry h
  obtain ⟨d, ds, hd, he, sd, q⟩ := h
  obtain ⟨as, r1⟩ := Dp.reads I d x v hd rx
  rcases he with ⟨he, se⟩ | ⟨he, se⟩
  · obtain ⟨bs, r2⟩ := Dp.reads I (.list ds) y u he ry
    exact SeqAt.notIn_list_reads r2 r1 (SeqAt.canLay_of_shaped se) (SeqAt.canLay_of_shaped sd) (room_in_shaped sd hu) ⟨.bl _, H, I, rfl, q⟩
  · obtain ⟨bs, r2⟩ := Dp.reads I (.tuple ds) y u he ry
    exact SeqAt.notIn_tuple_reads r2 r1 (SeqAt.canLay_of_shaped se) (SeqAt.canLay_of_shaped sd) (room_in_shaped sd hu) ⟨.bl _, H, I, rfl, q⟩
/-- whether it is in, by what the container is -/
def isIn (st : Sto) (v w : AV) : Option Bool := match deD st w with
  | some _ => (match dget st w v with
    | some o => some o.isSome
    | none => none)
  | none => (match pdS st v, pdS st w with
    | some d, some (.list ds) => some (ds.any fun z => PyData.eqv z d)
    | some d, some (.tuple ds) => some (ds.any fun z => PyData.eqv z d)
    | _, _ => none)
def inM : AV → AV → M AV := fun v w st => match isIn st v w with
  | some b => .ok (.bl b) st
  | none => .stuck
def notInM : AV → AV → M AV := fun v w st => match isIn st v w with
  | some b => .ok (.bl (!b)) st
  | none => .stuck
theorem isIn_ok {ρ : Rho} {H : Hp} {fr : Fr} {st : Sto} {σ : L2.St} (r : Rep (cx X G) ρ fr st σ H) {v w : AV} {x y : V} {k : Bool} (hv : VR (cx X G) ρ H v x) (hw : VR (cx X G) ρ H w y) (e : isIn st v w = some k) (neg : Bool) {Q : VK} (q : Q (.bl (if neg then !k else k)) H) :
    rDIn neg x y H Q ∨ rInS X.K neg x y H Q := by
  unfold isIn at e
  split at e
  · split at e
    · rename_i o ho
      cases e
      obtain ⟨a, o', e1, e2, e3⟩ := dget_ok r hw hv ho
      refine .inl ⟨a, o', e1, e2, ?_⟩
      rcases e3 with ⟨e3, e4⟩ | ⟨z, z', e3, e4, _⟩ <;> (subst e3 e4; exact q)
    · cases e
  · split at e
    · rename_i d ds hd hds
      cases e
      obtain ⟨d1, d2⟩ := pdS_ok r hv hd
      obtain ⟨e1, e2⟩ := pdS_ok r hw hds
      exact .inr ⟨d, ds, d1, .inl ⟨e1, e2⟩, d2, q⟩
    · rename_i d ds hd hds
      cases e
      obtain ⟨d1, d2⟩ := pdS_ok r hv hd
      obtain ⟨e1, e2⟩ := pdS_ok r hw hds
      exact .inr ⟨d, ds, d1, .inr ⟨e1, e2⟩, d2, q⟩
    · cases e
theorem op_inA (hu : X.A.units + 65 < cLine) : OpR X (compareOp .In) (fun x y H Q => rDIn false x y H Q ∨ rInS X.K false x y H Q) := OpR.or (op_din (by omega)) (op_inS' hu)
theorem op_notInA (hu : X.A.units + 65 < cLine) : OpR X (compareOp .NotIn) (fun x y H Q => rDIn true x y H Q ∨ rInS X.K true x y H Q) := OpR.or (op_dnotin (by omega)) (op_notInS' hu)
theorem o_in : Op2 X G W (fun x y H Q => rDIn false x y H Q ∨ rInS X.K false x y H Q) inM := fun x y σ H Q q => by
  obtain ⟨ρ, fr, st, v, w, r, hv, hw, p⟩ := q.un2
  unfold inM at p
  split at p
  · rename_i k hk
    exact isIn_ok r hv hw hk false (p ρ H (Stp.refl _ _) r _ (.bl _))
  · exact p.elim
theorem o_notIn : Op2 X G W (fun x y H Q => rDIn true x y H Q ∨ rInS X.K true x y H Q) notInM := fun x y σ H Q q => by
  obtain ⟨ρ, fr, st, v, w, r, hv, hw, p⟩ := q.un2
  unfold notInM at p
  split at p
  · rename_i k hk
    exact isIn_ok r hv hw hk true (p ρ H (Stp.refl _ _) r _ (.bl _))
  · exact p.elim
end
end MM
set_option Elab.async false
set_option linter.all false
set_option maxRecDepth 100000
set_option maxHeartbeats 4000000
/-! The mirror's walks and list comprehensions. -/
namespace MM
open PySem PySem.Spec PyProof.Rows L2

/-- what is walked: the items; a list of the store must stay as it is -/
structure Its where
  its : List AV
  gd : Option Nat
def GdOk (c : MC) (I : Its) (ρ : Rho) (H : Hp) : Prop := ∀ n, I.gd = some n → ∃ a vs, ρ.m[n]? = some a ∧ H a = some (.lst vs) ∧ VRs c ρ H I.its vs
/-- the iterator gives the items -/
def WkM (c : MC) (J : It) (I : Its) (ρ : Rho) (H : Hp) : Prop :=
  ∀ i ρ1 H1, Stw ρ H ρ1 H1 → GdOk c I ρ1 H1 →
    (i < I.its.length → J.go i H1 ∧ ∀ x H2, J.yld i H1 x H2 → (H2 = H1 ∨ ∃ T o, H1 T = none ∧ H2 = upd H1 T o) ∧ ∀ v, I.its[i]? = some v → VR c ρ1 H2 v x) ∧ (i = I.its.length → J.stop i H1)
def tMi (c : MC) (W : WX) (m : Fr → M Its) : TI := fun σ H R => tG c W [] (fun _ => m) (fun I ρ H => ∀ J, WkM c J I ρ H → R J H) σ H
abbrev MI (X : Cx) (G : String → Option Addr) (W : WX) (tg iter : Expr) (m : Fr → M Its) : Prop := PI X tg iter (tMi (cx X G) W m)
theorem pi_imp {X : Cx} {tg e : Expr} {t t' : TI} (h : PI X tg e t) (i : ∀ σ H Q, t' σ H Q → t σ H Q) : PI X tg e t' := ⟨fun pins s σ H Q I q => h.run pins s σ H Q I (i σ H Q q)⟩
theorem PI.or {X : Cx} {tg e : Expr} {t t' : TI} (h : PI X tg e t) (h' : PI X tg e t') : PI X tg e (fun σ H R => t σ H R ∨ t' σ H R) := ⟨fun pins s σ H Q I q => by
  rcases q with q | q
  · exact h.run pins s σ H Q I q
  · exact h'.run pins s σ H Q I q⟩
mutual
/-- the same data -/
def sameV : AV → AV → Bool
  | .non, b => match b with
    | .non => true
    | _ => false
  | .bl a, b => match b with
    | .bl b => a == b
    | _ => false
  | .int a, b => match b with
    | .int b => decide (a = b)
    | _ => false
  | .str a, b => match b with
    | .str b => decide (a = b)
    | _ => false
  | .tup a, b => match b with
    | .tup b => sameVs a b
    | _ => false
  | .ktup a, b => match b with
    | .ktup b => sameVs a b
    | _ => false
  | .lst a, b => match b with
    | .lst b => sameVs a b
    | _ => false
  | .dk a, b => match b with
    | .dk b => sameVk a b
    | _ => false
  | .dt a, b => match b with
    | .dt b => sameVt a b
    | _ => false
  | .ins c a, b => match b with
    | .ins d b => decide (c = d) && sameVf a b
    | _ => false
  | .ptr a, b => match b with
    | .ptr b => decide (a = b)
    | _ => false
  | .glo a, b => match b with
    | .glo b => decide (a = b)
    | _ => false
  | .ty a, b => match b with
    | .ty b => decide (a = b)
    | _ => false
termination_by structural a => a
def sameVs : List AV → List AV → Bool
  | [], b => match b with
    | [] => true
    | _ => false
  | a :: r, b => match b with
    | b :: q => sameV a b && sameVs r q
    | _ => false
termination_by structural a => a
def sameVk : List (Key × AV) → List (Key × AV) → Bool
  | [], b => match b with
    | [] => true
    | _ => false
  | (k, a) :: r, b => match b with
    | (l, b) :: q => decide (k = l) && (sameV a b && sameVk r q)
    | _ => false
termination_by structural a => a
def sameVt : List (List Key × AV) → List (List Key × AV) → Bool
  | [], b => match b with
    | [] => true
    | _ => false
  | (k, a) :: r, b => match b with
    | (l, b) :: q => decide (k = l) && (sameV a b && sameVt r q)
    | _ => false
termination_by structural a => a
def sameVf : List (String × AV) → List (String × AV) → Bool
  | [], b => match b with
    | [] => true
    | _ => false
  | (k, a) :: r, b => match b with
    | (l, b) :: q => decide (k = l) && (sameV a b && sameVf r q)
    | _ => false
termination_by structural a => a
end
mutual
theorem sameV_eq : ∀ {a b : AV}, sameV a b = true → a = b
  | .non, b, h => by cases b <;> first | rfl | (simp [sameV] at h)
  | .bl a, b, h => by cases b <;> simp [sameV] at h; rw [h]
  | .int a, b, h => by cases b <;> simp [sameV] at h; rw [h]
  | .str a, b, h => by cases b <;> simp [sameV] at h; rw [h]
  | .tup a, b, h => by cases b <;> simp [sameV] at h; rw [sameVs_eq h]
  | .ktup a, b, h => by cases b <;> simp [sameV] at h; rw [sameVs_eq h]
  | .lst a, b, h => by cases b <;> simp [sameV] at h; rw [sameVs_eq h]
  | .dk a, b, h => by cases b <;> simp [sameV] at h; rw [sameVk_eq h]
  | .dt a, b, h => by cases b <;> simp [sameV] at h; rw [sameVt_eq h]
  | .ins c a, b, h => by cases b <;> simp [sameV] at h; rw [sameVf_eq h.2, h.1]
  | .ptr a, b, h => by cases b <;> simp [sameV] at h; rw [h]
  | .glo a, b, h => by cases b <;> simp [sameV] at h; rw [h]
  | .ty a, b, h => by cases b <;> simp [sameV] at h; rw [h]
theorem sameVs_eq : ∀ {a b : List AV}, sameVs a b = true → a = b
  | [], b, h => by cases b <;> first | rfl | (simp [sameVs] at h)
  | a :: r, b, h => by
    cases b <;> simp [sameVs] at h
    rw [sameV_eq h.1, sameVs_eq h.2]
theorem sameVk_eq : ∀ {a b : List (Key × AV)}, sameVk a b = true → a = b
  | [], b, h => by cases b <;> first | rfl | (simp [sameVk] at h)
  | (k, a) :: r, b, h => by
    cases b with
    | nil => simp [sameVk] at h
    | cons y q =>
      obtain ⟨l, b⟩ := y
      simp [sameVk] at h
      rw [h.1, sameV_eq h.2.1, sameVk_eq h.2.2]
theorem sameVt_eq : ∀ {a b : List (List Key × AV)}, sameVt a b = true → a = b
  | [], b, h => by cases b <;> first | rfl | (simp [sameVt] at h)
  | (k, a) :: r, b, h => by
    cases b with
    | nil => simp [sameVt] at h
    | cons y q =>
      obtain ⟨l, b⟩ := y
      simp [sameVt] at h
      rw [h.1, sameV_eq h.2.1, sameVt_eq h.2.2]
theorem sameVf_eq : ∀ {a b : List (String × AV)}, sameVf a b = true → a = b
  | [], b, h => by cases b <;> first | rfl | (simp [sameVf] at h)
  | (k, a) :: r, b, h => by
    cases b with
    | nil => simp [sameVf] at h
    | cons y q =>
      obtain ⟨l, b⟩ := y
      simp [sameVf] at h
      rw [h.1, sameV_eq h.2.1, sameVf_eq h.2.2]
end
mutual
@[simp] theorem sameV_refl : ∀ a : AV, sameV a a = true
  | .non => rfl
  | .bl a => by simp [sameV]
  | .int a => by simp [sameV]
  | .str a => by simp [sameV]
  | .tup a => by simp [sameV, sameVs_refl a]
  | .ktup a => by simp [sameV, sameVs_refl a]
  | .lst a => by simp [sameV, sameVs_refl a]
  | .dk a => by simp [sameV, sameVk_refl a]
  | .dt a => by simp [sameV, sameVt_refl a]
  | .ins c a => by simp [sameV, sameVf_refl a]
  | .ptr a => by simp [sameV]
  | .glo a => by simp [sameV]
  | .ty a => by simp [sameV]
@[simp] theorem sameVs_refl : ∀ a : List AV, sameVs a a = true
  | [] => rfl
  | a :: r => by simp [sameVs, sameV_refl a, sameVs_refl r]
@[simp] theorem sameVk_refl : ∀ a : List (Key × AV), sameVk a a = true
  | [] => rfl
  | (k, a) :: r => by simp [sameVk, sameV_refl a, sameVk_refl r]
@[simp] theorem sameVt_refl : ∀ a : List (List Key × AV), sameVt a a = true
  | [] => rfl
  | (k, a) :: r => by simp [sameVt, sameV_refl a, sameVt_refl r]
@[simp] theorem sameVf_refl : ∀ a : List (String × AV), sameVf a a = true
  | [] => rfl
  | (k, a) :: r => by simp [sameVf, sameV_refl a, sameVf_refl r]
end
/-- the store's list is as it was -/
def gdokB (I : Its) (st : Sto) : Bool := match I.gd with
  | none => true
  | some n => match st[n]? with
    | some (.lst xs) => sameVs xs I.its
    | _ => false
abbrev gdok (I : Its) (st : Sto) : Prop := gdokB I st = true
theorem gdok_ok {c : MC} {ρ : Rho} {H : Hp} {fr : Fr} {st : Sto} {σ : L2.St} (r : Rep c ρ fr st σ H) {I : Its} (h : gdok I st) : GdOk c I ρ H := fun n e => by
  unfold gdok gdokB at h
  rw [e] at h
  simp only at h
  split at h
  · rename_i xs hx
    obtain ⟨a, u, e1, e2, e3⟩ := r.ob n _ hx
    have ee := sameVs_eq h
    subst ee
    cases e3 with
    | lst q => exact ⟨a, _, e1, e2, q⟩
  · cases h

section
variable {X : Cx} {G : String → Option Addr} {W : WX} {tg iter e a b : Expr} {es : List Expr} {pos p : Pos}
/-- items of a value -/
def itsOf (st : Sto) : AV → Option Its
  | .tup xs => some ⟨xs, none⟩
  | .ktup xs => some ⟨xs, none⟩
  | .lst xs => some ⟨xs, none⟩
  | .ptr n => match st[n]? with
    | some (.lst xs) => some ⟨xs, some n⟩
    | _ => none
  | _ => none
def mIter (m : Fr → M AV) : Fr → M Its := fun fr st => (m fr st).bind fun v st1 => match itsOf st1 v with
  | some I => .ok I st1
  | none => .stuck
theorem wk_tup {c : MC} {ρ : Rho} {H : Hp} {a : Addr} {vs : List V} {xs : List AV} (h : SqT c.K H a vs) (ht : ∀ ρ1 H1, Stw ρ H ρ1 H1 → SqT c.K H1 a vs) (r : VRs c ρ H xs vs) : WkM c (Itt c.K a) ⟨xs, none⟩ ρ H := fun i ρ1 H1 s _ => by
  have q := ht ρ1 H1 s
  have r1 := r.monoW s
  refine ⟨fun hi => ?_, fun hi => ⟨vs, q, by rw [hi, ← r.len]; exact Nat.le_refl _⟩⟩
  have hv : i < vs.length := by rw [← r.len]; exact hi
  refine ⟨⟨vs, vs[i], q, List.getElem?_eq_getElem hv⟩, fun x H2 y => ?_⟩
  obtain ⟨e, y⟩ := y
  subst e
  refine ⟨.inl rfl, fun v hv' => ?_⟩
  obtain ⟨z, e1, e2⟩ := r1.get hv'
  rw [y vs q] at e1
  cases e1
  exact e2
theorem wk_lst {c : MC} {ρ : Rho} {H : Hp} {a : Addr} {vs : List V} {xs : List AV} (h : Rd H a (.lst vs)) (n : ¬ ρ.has a) (r : VRs c ρ H xs vs) : WkM c (Itl c.K a) ⟨xs, none⟩ ρ H := fun i ρ1 H1 s _ => by
  have q : SqL c.K H1 a vs := .inl (s.rd n h)
  have r1 := r.monoW s
  refine ⟨fun hi => ?_, fun hi => ⟨vs, q, by rw [hi, ← r.len]; exact Nat.le_refl _⟩⟩
  have hv : i < vs.length := by rw [← r.len]; exact hi
  refine ⟨⟨vs, vs[i], q, List.getElem?_eq_getElem hv⟩, fun x H2 y => ?_⟩
  obtain ⟨e, y⟩ := y
  subst e
  refine ⟨.inl rfl, fun v hv' => ?_⟩
  obtain ⟨z, e1, e2⟩ := r1.get hv'
  rw [y vs q] at e1
  cases e1
  exact e2
theorem wk_ptr {c : MC} {ρ : Rho} {H : Hp} {a : Addr} {m : Nat} {xs : List AV} (h : ρ.m[m]? = some a) : WkM c (Itl c.K a) ⟨xs, some m⟩ ρ H := fun i ρ1 H1 s g => by
  obtain ⟨a', vs, e1, e2, r1⟩ := g m rfl
  rw [get_stw s h] at e1
  cases e1
  have q : SqL c.K H1 a vs := .of e2
  have r1 : VRs c ρ1 H1 xs vs := r1
  refine ⟨fun hi => ?_, fun hi => ⟨vs, q, by rw [hi, ← r1.len]; exact Nat.le_refl _⟩⟩
  have hv : i < vs.length := by rw [← r1.len]; exact hi
  refine ⟨⟨vs, vs[i], q, List.getElem?_eq_getElem hv⟩, fun x H2 y => ?_⟩
  obtain ⟨e, y⟩ := y
  subst e
  refine ⟨.inl rfl, fun v hv' => ?_⟩
  obtain ⟨z, e1, e2⟩ := r1.get hv'
  rw [y vs q] at e1
  cases e1
  exact e2
/-- a list or a tuple, walked -/
theorem mi_seq {m : Fr → M AV} (h : ME X G W e m) : MI X G W tg e (mIter m) := pi_imp (PI.or (pi_list h) (pi_tup h)) fun σ H S q => by
  obtain ⟨ρ, fr, st, avs, r, _, p⟩ := q
  have p : Pst (cx X G) W ρ fr σ H (fun I ρ H => ∀ J, WkM (cx X G) J I ρ H → S J H) (mIter m fr st) := p
  unfold mIter at p
  cases em : m fr st with
  | ok v st1 =>
    simp only [em, R.bind_ok] at p
    cases v with
    | tup xs =>
      refine .inr ⟨ρ, fr, st, [], r, .nil, ?_⟩
      show Pst _ _ _ _ _ _ _ (m fr st)
      rw [em]
      intro ρ' H' s r' x hx
      cases hx with
      | tup hh hr => exact ⟨_, rfl, ⟨_, .of hh⟩, p ρ' H' s r' _ (wk_tup (.of hh) (fun ρ1 H1 s1 => .of (s1.tups _ _ hh)) hr)⟩
    | ktup xs =>
      refine .inr ⟨ρ, fr, st, [], r, .nil, ?_⟩
      show Pst _ _ _ _ _ _ _ (m fr st)
      rw [em]
      intro ρ' H' s r' x hx
      cases hx with
      | ktup hh hr => exact ⟨_, rfl, ⟨_, hh.sq⟩, p ρ' H' s r' _ (wk_tup hh.sq (fun ρ1 H1 s1 => hh.sq) hr)⟩
    | lst xs =>
      refine .inl ⟨ρ, fr, st, [], r, .nil, ?_⟩
      show Pst _ _ _ _ _ _ _ (m fr st)
      rw [em]
      intro ρ' H' s r' x hx
      cases hx with
      | lst hh n hr => exact ⟨_, rfl, ⟨_, .inl hh⟩, p ρ' H' s r' _ (wk_lst hh n hr)⟩
    | ptr n =>
      refine .inl ⟨ρ, fr, st, [], r, .nil, ?_⟩
      show Pst _ _ _ _ _ _ _ (m fr st)
      rw [em]
      intro ρ' H' s r' x hx
      cases hx with
      | ptr hh =>
        simp only [itsOf] at p
        cases es : st1[n]? with
        | none => simp only [es] at p; exact p.elim
        | some o =>
          cases o with
          | lst xs =>
            simp only [es] at p
            obtain ⟨a, u, e1, e2, e3⟩ := r'.ob n _ es
            rw [hh] at e1
            cases e1
            cases e3 with
            | lst q => exact ⟨_, rfl, ⟨_, .of e2⟩, p ρ' H' s r' _ (wk_ptr hh)⟩
          | _ => simp only [es] at p; exact p.elim
    | _ => exact p.elim
  | exc x st1 =>
    simp only [em, R.bind_exc] at p
    refine .inl ⟨ρ, fr, st, [], r, .nil, ?_⟩
    show Pst _ _ _ _ _ _ _ (m fr st)
    rw [em]
    exact p
  | stuck => simp only [em, R.bind_stuck] at p; exact p.elim

/-! ### targets of names -/
inductive Tgt where
  | nm (i : Nat)
  | tp (is : List Nat)
/-- a tuple's or a list's items, by value -/
def deTL : AV → Option (List AV)
  | .tup xs => some xs
  | .ktup xs => some xs
  | .lst xs => some xs
  | _ => none
def setAll : List Nat → List AV → Fr → Fr
  | i :: is, v :: vs, fr => setAll is vs (fr.set i (some v))
  | _, _, fr => fr
def setTgt : Tgt → AV → Fr → Option Fr
  | .nm i, v, fr => some (fr.set i (some v))
  | .tp is, v, fr => match deTL v with
    | some xs => if xs.length = is.length then some (setAll is xs fr) else none
    | none => none
def gNames : List Nat → TGs
  | [] => gNil
  | i :: is => gCons (gName i) (gNames is)
def gTgt (K : PySem.W.Frag) : Tgt → TG
  | .nm i => gName i
  | .tp is => fun v σ H Q => gTup K is.length (gNames is) v σ H Q ∨ gUnl K is.length (gNames is) v σ H Q
theorem pg_tp {X : Cx} {es : List Expr} {k : Nat} {is : List Nat} {pos : Pos} (hc : X.calm = true) (h : PGs X es (gNames is)) (hn : (assignEach es X.env).length = is.length := by rfl) (hst : (assignEach es X.env).findIdx? (·.1) = none := by rfl) : PG X (.Tuple es k pos) (gTgt X.K (.tp is)) := ⟨fun pins s σ H v u Q I r q => by
  rcases q with q | q
  · exact (pg_tup hc h hn hst).run pins s σ H v u Q I r q
  · exact (pg_unl hc h hn hst).run pins s σ H v u Q I r q⟩
def Tgt.ix : Tgt → List Nat
  | .nm i => [i]
  | .tp is => is
def wipeF (fr : Fr) : List Nat → Fr
  | [] => fr
  | v :: vs => (wipeF fr vs).set v none
theorem wipeF_length (fr : Fr) : ∀ vs : List Nat, (wipeF fr vs).length = fr.length
  | [] => rfl
  | v :: vs => by unfold wipeF; rw [List.length_set, wipeF_length fr vs]
theorem wipeF_some {fr : Fr} {i : Nat} {x : AV} : ∀ {vs : List Nat}, (wipeF fr vs)[i]? = some (some x) → fr[i]? = some (some x) ∧ i ∉ vs
  | [], h => ⟨h, by simp⟩
  | v :: vs, h => by
    unfold wipeF at h
    by_cases hi : v = i
    · subst hi
      by_cases hv : v < (wipeF fr vs).length
      · rw [List.getElem?_set_self hv] at h; cases h
      · rw [List.getElem?_eq_none (by simpa using hv)] at h; cases h
    · rw [List.getElem?_set_ne hi] at h
      obtain ⟨h1, h2⟩ := wipeF_some h
      exact ⟨h1, by simp only [List.mem_cons, not_or]; exact ⟨fun e => hi e.symm, h2⟩⟩
theorem Rep.wipe {c : MC} {ρ : Rho} {H : Hp} {fr : Fr} {st : Sto} {σ : L2.St} (r : Rep c ρ fr st σ H) (vs : List Nat) : Rep c ρ (wipeF fr vs) st (L2.wipe σ vs) H := by
  refine r.reframe (by rw [wipeF_length, wipe_length]; exact r.fl) fun i v h => ?_
  obtain ⟨h1, h2⟩ := wipeF_some h
  obtain ⟨x, e, q⟩ := r.fr i v h1
  exact ⟨x, by rw [wipe_out h2]; exact e, q⟩
theorem wipe_set {σ : L2.St} {i : Nat} {o : Option V} : ∀ {vs : List Nat}, i ∈ vs → L2.wipe (σ.set i o) vs = L2.wipe σ vs
  | v :: vs, h => by
    unfold L2.wipe
    by_cases hv : i ∈ vs
    · rw [wipe_set hv]
    · have e : i = v := by
        rcases List.mem_cons.mp h with h | h
        · exact h
        · exact absurd h hv
      subst e
      have comm : ∀ ws : List Nat, i ∉ ws → L2.wipe (σ.set i o) ws = (L2.wipe σ ws).set i o := by
        intro ws
        induction ws with
        | nil => intro _; rfl
        | cons w ws ih =>
          intro hw
          unfold L2.wipe
          rw [ih fun z => hw (List.mem_cons_of_mem _ z), List.set_comm _ _ (show i ≠ w from fun z => hw (by rw [z]; exact List.mem_cons_self))]
      rw [comm vs hv, List.set_set]
theorem gNames_ok {c : MC} {ρ : Rho} {H : Hp} {st : Sto} {vs : List Nat} : ∀ {is : List Nat} {xs : List AV} {ws : List V} {fr : Fr} {σ : L2.St} {Q : L2.St → Hp → Prop}, Rep c ρ fr st σ H → VRs c ρ H xs ws → xs.length = is.length → (∀ i ∈ is, i ∈ vs) →
    (∀ σ', Rep c ρ (setAll is xs fr) st σ' H → L2.wipe σ' vs = L2.wipe σ vs → Q σ' H) → gNames is ws σ H Q
  | [], [], _, fr, σ, Q, r, .nil, _, _, q => ⟨rfl, q σ r rfl⟩
  | i :: is, x :: xs, _, fr, σ, Q, r, .cons h t, hl, hm, q => by
    refine ⟨_, _, rfl, ?_⟩
    show gNames is _ (σ.set i _) H Q
    refine gNames_ok (r.slot h) t (by simpa using hl) (fun j hj => hm j (List.mem_cons_of_mem _ hj)) fun σ' r' w => q σ' r' ?_
    rw [w, wipe_set (hm i List.mem_cons_self)]
theorem gTgt_ok {c : MC} {ρ : Rho} {H : Hp} {st : Sto} {vs : List Nat} {t : Tgt} {v : AV} {x : V} {fr fr' : Fr} {σ : L2.St} {Q : L2.St → Hp → Prop} (r : Rep c ρ fr st σ H) (h : VR c ρ H v x) (e : setTgt t v fr = some fr') (hm : ∀ i ∈ t.ix, i ∈ vs)
    (q : ∀ σ', Rep c ρ fr' st σ' H → L2.wipe σ' vs = L2.wipe σ vs → Q σ' H) : gTgt c.K t x σ H Q := by
  cases t with
  | nm i =>
    cases e
    exact q _ (r.slot h) (wipe_set (hm i (by simp [Tgt.ix])))
  | tp is =>
    simp only [setTgt] at e
    split at e
    · rename_i xs hx
      split at e
      · rename_i hl
        cases e
        cases h with
        | tup hh hr => cases hx; exact .inl ⟨_, _, rfl, .of hh, by rw [← hr.len]; exact hl, gNames_ok r hr hl hm q⟩
        | ktup hh hr => cases hx; exact .inl ⟨_, _, rfl, hh.sq, by rw [← hr.len]; exact hl, gNames_ok r hr hl hm q⟩
        | lst hh n hr => cases hx; exact .inr ⟨_, _, rfl, .inl hh, by rw [← hr.len]; exact hl, gNames_ok r hr hl hm q⟩
        | _ => simp [deTL] at hx
      · cases e
    · cases e

/-! ### list comprehensions -/
/-- nothing may be raised here -/
def R.nox {α : Type} : R α → R α
  | .exc _ _ => .stuck
  | r => r
@[simp] theorem R.nox_ok {α : Type} (a : α) (st : Sto) : (R.ok a st).nox = .ok a st := rfl
@[simp] theorem R.nox_exc {α : Type} (e : Exn) (st : Sto) : (R.exc e st : R α).nox = .stuck := rfl
@[simp] theorem R.nox_stuck {α : Type} : (R.stuck : R α).nox = .stuck := rfl
theorem R.bind_assoc {α β γ : Type} (r : R α) (f : α → Sto → R β) (g : β → Sto → R γ) : (r.bind f).bind g = r.bind fun a st => (f a st).bind g := by
  cases r <;> rfl
/-- the loop: what is made of the items from here on -/
def compL (I : Its) (t : Tgt) (mt : Fr → M Bool) (me : Fr → M AV) (fr : Fr) : List AV → M (List AV)
  | [], st => if gdok I st then .ok [] st else .stuck
  | x :: xs, st => if gdok I st then (match setTgt t x fr with
    | some fr1 => (mt fr1 st).nox.bind fun b st1 => if b = true then (me fr1 st1).nox.bind fun v st2 => (compL I t mt me fr xs st2).bind fun vs st3 => .ok (v :: vs) st3 else compL I t mt me fr xs st1
    | none => .stuck) else .stuck
abbrev W0 : WX := fun _ _ _ _ => False
def mComp (own : List Nat) (t : Tgt) (mi : Fr → M Its) (mt : Fr → M Bool) (me : Fr → M AV) : Fr → M AV := fun fr st => (mi fr st).bind fun I st1 =>
  if I.its.length ≤ 16000000 then (compL I t mt me (wipeF fr own) I.its st1).bind fun vs st2 => .ok (.lst vs) st2 else .stuck
def mYes : Fr → M Bool := fun _ st => .ok true st
theorem mts_nil {X : Cx} {W : WX} : PTs X [] (tMb (cx X G) W mYes) := ⟨fun pins s σ H Q I q => pts_nil.run pins s σ H Q I (by
  obtain ⟨ρ, fr, st, avs, r, _, p⟩ := q
  exact p ρ H (Stp.refl _ _) r)⟩
theorem mts_one {X : Cx} {W : WX} {m : Fr → M Bool} (h : MT X G W e m) : PTs X [e] (tMb (cx X G) W m) := pts_one h
/-- the items are walked, then k -/
theorem bindI {c : MC} {W : WX} {β : Type} {P : β → Rho → Hp → Prop} {σ : L2.St} {H : Hp} {m : Fr → M Its} {k : Its → Fr → M β} (h : tG c W [] (fun _ fr st => (m fr st).bind fun I => k I fr) P σ H) :
    tMi c W m σ H fun J H1 => ∃ I ρ fr st, Rep c ρ fr st σ H1 ∧ WkM c J I ρ H1 ∧ Pst c W ρ fr σ H1 P (k I fr st) := by
  obtain ⟨ρ, fr, st, avs, r, _, p⟩ := h
  refine ⟨ρ, fr, st, [], r, .nil, ?_⟩
  show Pst c W ρ fr σ H _ (m fr st)
  cases e : m fr st with
  | ok I st1 =>
    simp only [e, R.bind_ok] at p
    exact fun ρ' H' s r' J hJ => ⟨I, ρ', fr, st1, r', hJ, p.mono s⟩
  | exc x st1 => simp only [e, R.bind_exc] at p; exact p
  | stuck => simp only [e, R.bind_stuck] at p; exact p.elim
theorem tMi_imp {c : MC} {W : WX} {σ : L2.St} {H : Hp} {m : Fr → M Its} {R R' : It → Hp → Prop} (h : tMi c W m σ H R) (i : ∀ J H, R J H → R' J H) : tMi c W m σ H R' := tG.imp h fun _ _ _ q J hJ => i _ _ (q J hJ)
theorem drop_at {α : Type} {l : List α} {i : Nat} (h : i < l.length) : l.drop i = l[i] :: l.drop (i + 1) := (List.getElem_cons_drop h).symm
theorem wipe_get {σ : L2.St} {i : Nat} : ∀ {vs : List Nat}, (L2.wipe σ vs)[i]? = if i ∈ vs then (σ[i]?).map (fun _ => none) else σ[i]?
  | [] => by simp [L2.wipe]
  | v :: vs => by
    unfold L2.wipe
    have ih := wipe_get (σ := σ) (i := i) (vs := vs)
    by_cases hi : v = i
    · subst hi
      rw [List.getElem?_set_self', ih, if_pos List.mem_cons_self]
      by_cases h : v ∈ vs
      · rw [if_pos h]
        cases σ[v]? <;> rfl
      · rw [if_neg h]
        cases σ[v]? <;> rfl
    · rw [List.getElem?_set_ne hi, ih]
      by_cases h : i ∈ vs
      · rw [if_pos h, if_pos (List.mem_cons_of_mem _ h)]
      · rw [if_neg h, if_neg (by simp only [List.mem_cons, not_or]; exact ⟨fun e => hi e.symm, h⟩)]
theorem wipe_wipe {σ : L2.St} {vs : List Nat} : L2.wipe (L2.wipe σ vs) vs = L2.wipe σ vs := by
  apply List.ext_getElem?
  intro i
  rw [wipe_get, wipe_get]
  by_cases h : i ∈ vs
  · rw [if_pos h, if_pos h]
    cases σ[i]? <;> rfl
  · rw [if_neg h, if_neg h]
/-- a list comprehension behind its iterator -/
def LcB (g : TG) (tt : TT) (te : TE) (vs : List Nat) (σ : L2.St) (Q : VK) (J : It) (H1 : Hp) : Prop := ∀ D, H1 D = none → ∃ W : Nat → Nat → Hp → Prop, (∃ m, W 0 m (upd H1 D (.lst []))) ∧ ∀ i m H, W i m H →
  (J.stop i H ∧ Q (.ref D) H) ∨ (J.go i H ∧ ∃ Nx : Hp → Prop, (∀ H', Nx H' → ∃ m', m' < m ∧ W (i + 1) m' H') ∧ ∀ x H', J.yld i H x H' → g x (L2.wipe σ vs) H' fun σ2 H2 => L2.wipe σ2 vs = L2.wipe σ vs ∧ tt σ2 H2 fun b H3 =>
    if b = true then te σ2 H3 fun y H4 => ∃ acc, H4 D = some (.lst acc) ∧ acc.length < sizeLine ∧ Nx (upd H4 D (.lst (acc ++ [y]))) else Nx H3)
theorem lcBody {c : MC} {W : WX} {own : List Nat} {t : Tgt} {mt : Fr → M Bool} {me : Fr → M AV} (hm : ∀ i ∈ t.ix, i ∈ own) {σ : L2.St} {H1 : Hp} {Q : VK} {I : Its} {ρ1 : Rho} {fr : Fr} {st1 : Sto} {J : It} (r1 : Rep c ρ1 fr st1 σ H1) (wk : WkM c J I ρ1 H1)
    (p1 : Pst c W ρ1 fr σ H1 (PV c Q) (if I.its.length ≤ 16000000 then (compL I t mt me (wipeF fr own) I.its st1).bind fun vs st2 => .ok (.lst vs) st2 else .stuck)) : LcB (gTgt c.K t) (tMb c W0 mt) (tM c W0 me) own σ Q J H1 := by
  intro D hD
  by_cases hlen : I.its.length ≤ 16000000
  case neg => rw [if_neg hlen] at p1; exact p1.elim
  rw [if_pos hlen] at p1
  have nD : ¬ ρ1.has D := r1.notin hD
  have key : ∃ Iv : Nat → Hp → Prop, Iv = (fun i H' => i ≤ I.its.length ∧ ∃ ρ' st' acc vs, Stp ρ1 H1 ρ' H' ∧ Rep c ρ' fr st' σ H' ∧ D ∈ ρ'.h ∧ D ∉ ρ'.m ∧ H' D = some (.lst vs) ∧ VRs c ρ' H' acc vs ∧ acc.length ≤ i ∧
    Pst c W ρ1 fr σ H1 (PV c Q) ((compL I t mt me (wipeF fr own) (I.its.drop i) st').bind fun ws st2 => .ok (.lst (acc ++ ws)) st2)) := ⟨_, rfl⟩
  obtain ⟨Iv, hIv⟩ := key
  have h0 : Iv 0 (upd H1 D (.lst [])) := by
    rw [hIv]
    exact ⟨Nat.zero_le _, ρ1.hide D, st1, [], [], Stp.hide hD, r1.hide hD, List.mem_cons_self, fun z => nD (.inl z), upd_same, .nil, Nat.le_refl _, by simpa using p1⟩
  refine ⟨fun i m H' => m = I.its.length - i ∧ Iv i H', ⟨I.its.length, by simp, h0⟩, ?_⟩
  rintro i m H' ⟨rfl, hiv⟩
  have hiv' := hiv
  rw [hIv] at hiv'
  obtain ⟨hi, ρ', st', acc, vs, s, r, hh, nDm, hDv, hacc, hal, p⟩ := hiv'
  by_cases hlt : i < I.its.length
  · rw [drop_at hlt] at p
    simp only [compL] at p
    by_cases hg : gdok I st'
    case neg => rw [if_neg hg] at p; exact p.elim
    rw [if_pos hg] at p
    obtain ⟨go, yl⟩ := (wk i ρ' H' s.w (gdok_ok r hg)).1 hlt
    refine .inr ⟨go, Iv (i + 1), fun H'' h => ⟨I.its.length - (i + 1), by omega, rfl, h⟩, fun x H2 hy => ?_⟩
    obtain ⟨hH2, hv⟩ := yl x H2 hy
    have hvx := hv _ (List.getElem?_eq_getElem hlt)
    have s2r2 : Stp ρ' H' ρ' H2 ∧ Rep c ρ' fr st' σ H2 ∧ H2 D = some (.lst vs) := by
      rcases hH2 with e | ⟨T, o, hT, e⟩
      · subst e; exact ⟨Stp.refl _ _, r, hDv⟩
      · subst e; exact ⟨Stp.tmp hT, r.tmp hT, by rw [upd_ne (ne_of_none hDv hT)]; exact hDv⟩
    obtain ⟨s2, r2, hD2⟩ := s2r2
    cases ef : setTgt t I.its[i] (wipeF fr own) with
    | none => simp only [ef, R.bind_stuck] at p; exact p.elim
    | some fr1 =>
      simp only [ef] at p
      refine gTgt_ok (r2.wipe own) hvx ef hm fun σ2 r3 hw => ⟨by rw [hw, wipe_wipe], ρ', fr1, st', [], r3, .nil, ?_⟩
      show Pst c W0 ρ' fr1 σ2 H2 _ (mt fr1 st')
      cases et : mt fr1 st' with
      | stuck => simp only [et, R.nox_stuck, R.bind_stuck] at p; exact p.elim
      | exc e st2 => simp only [et, R.nox_exc, R.bind_stuck] at p; exact p.elim
      | ok b st2 =>
        simp only [et, R.nox_ok, R.bind_ok] at p
        intro ρ3 H3 s3 r3'
        have nD3 : D ∉ ρ3.m := s3.outm nDm (by rw [hD2]; simp)
        have hD3 : H3 D = some (.lst vs) := s3.keep D _ nDm hD2
        show if b = true then _ else _
        cases b with
        | false =>
          rw [if_neg Bool.false_ne_true] at p ⊢
          rw [hIv]
          have s13 := s2.trans s3
          exact ⟨hlt, ρ3, st2, acc, vs, s.trans s13, r.back s13 r3', s13.sub D hh, nD3, hD3, hacc.mono s13, Nat.le_succ_of_le hal, p⟩
        | true =>
          rw [if_pos rfl] at p ⊢
          refine ⟨ρ3, fr1, st2, [], r3', .nil, ?_⟩
          show Pst c W0 ρ3 fr1 σ2 H3 _ (me fr1 st2)
          cases em : me fr1 st2 with
          | stuck => simp only [em, R.nox_stuck, R.bind_stuck] at p; exact p.elim
          | exc e st4 => simp only [em, R.nox_exc, R.bind_stuck] at p; exact p.elim
          | ok v st4 =>
            simp only [em, R.nox_ok, R.bind_ok, R.bind_assoc] at p
            intro ρ4 H4 s4 r4 y hy4
            have nD4 : D ∉ ρ4.m := s4.outm nD3 (by rw [hD3]; simp)
            have hD4 : H4 D = some (.lst vs) := s4.keep D _ nD3 hD3
            have s24 := (s2.trans s3).trans s4
            have hh4 : D ∈ ρ4.h := s24.sub D hh
            have nt : ∀ ws, H4 D ≠ some (.tup ws) := fun ws e => by rw [hD4] at e; cases e
            refine ⟨vs, hD4, ?_, ?_⟩
            · have e1 := hacc.len
              have e2 : sizeLine = 16777216 := sizeLine_eq
              omega
            · rw [hIv]
              refine ⟨hlt, ρ4, st4, acc ++ [v], vs ++ [y], (s.trans s24).poke hD, (r.back s24 r4).poke hh4 nD4 nt, hh4, nD4, upd_same, ((hacc.mono s24).app (.cons hy4 .nil)).poke hh4 nt, by simp; omega, ?_⟩
              have e : (fun (ws : List AV) (st2 : Sto) => (R.ok (AV.lst (acc ++ [v] ++ ws)) st2 : R AV)) = fun ws st2 => R.ok (AV.lst (acc ++ (v :: ws))) st2 := by
                funext ws st2
                simp
              rw [e]
              exact p
  · have e : i = I.its.length := by omega
    subst e
    rw [List.drop_length] at p
    simp only [compL] at p
    by_cases hg : gdok I st'
    case neg => rw [if_neg hg] at p; exact p.elim
    rw [if_pos hg] at p
    have p' : ∀ ρ' x H', Stp ρ1 H1 ρ' H' → Rep c ρ' fr st' σ H' → VR c ρ' H' (.lst (acc ++ [])) x → Q x H' := fun ρ' x H' a b d => p ρ' H' a b x d
    refine .inl ⟨(wk _ ρ' H' s.w (gdok_ok r hg)).2 rfl, p' (ρ'.drop D) (.ref D) H' (s.drop hD fun z => nD (.inr z)) r.drop (.lst (.inl hDv) (fun z => ?_) (by rw [List.append_nil]; exact hacc.drop))⟩
    rcases z with z | z
    · exact nDm z
    · have := (List.mem_filter.mp z).2
      simp at this
theorem lcRead {c : MC} {W : WX} {own : List Nat} {t : Tgt} {mi : Fr → M Its} {mt : Fr → M Bool} {me : Fr → M AV} (hm : ∀ i ∈ t.ix, i ∈ own) {σ : L2.St} {H : Hp} {Q : VK} (q : tM c W (mComp own t mi mt me) σ H Q) :
    tLc (tMi c W mi) (gTgt c.K t) (tMb c W0 mt) (tM c W0 me) own σ H Q := by
  have q1 := bindI (c := c) (W := W) (m := mi) (P := PV c Q) (k := fun I fr st1 => if I.its.length ≤ 16000000 then (compL I t mt me (wipeF fr own) I.its st1).bind fun vs st2 => .ok (.lst vs) st2 else .stuck) q
  refine tMi_imp q1 fun J H1 hJ => ?_
  obtain ⟨I, ρ1, fr, st1, r1, wk, p1⟩ := hJ
  exact lcBody hm r1 wk p1
theorem me_lc {X : Cx} {G : String → Option Addr} {W : WX} {elt tg iter : Expr} {ifs : List Expr} {scope : Scope} {own : List (Str × Nat)} {pos : Pos} {t : Tgt} {mi : Fr → M Its} {mt : Fr → M Bool} {me : Fr → M AV} (hc : X.calm = true) (hN : X.N.Nodup) (hi : MI X G W tg iter mi) (ok : BlkOk X.N X.env.scope scope own)
    (hm : ∀ i ∈ t.ix, i ∈ own.map (·.2))
    (hg : ∀ (s : Shared) (H : Hp) (C : Addr) (cl : List (Str × Addr)) (fp : List Addr), PG (X.blk s H scope (compEnvC scope cl C X.env) fp) tg (gTgt X.K t))
    (ht : ∀ (s : Shared) (H : Hp) (C : Addr) (cl : List (Str × Addr)) (fp : List Addr), PTs (X.blk s H scope (compEnvC scope cl C X.env) fp) ifs (tMb (cx X G) W0 mt))
    (he : ∀ (s : Shared) (H : Hp) (C : Addr) (cl : List (Str × Addr)) (fp : List Addr), PE (X.blk s H scope (compEnvC scope cl C X.env) fp) elt (tM (cx X G) W0 me)) (hs : ∀ x, foldedSetIterable iter X.env x = pure x := by intro _; rfl) :
    ME X G W (.ListComp elt [⟨tg, iter, ifs, 0⟩] scope pos) (mComp (own.map (·.2)) t mi mt me) := by
  refine pe_imp (pe_lc hc hN hi ok hg ht he hs) fun σ H Q q => ?_
  exact lcRead hm q
end
end MM
set_option Elab.async false
set_option linter.all false
set_option maxRecDepth 100000
set_option maxHeartbeats 4000000
/-! The mirror's statements. -/
namespace MM
open PySem PySem.Spec PyProof.Rows L2

def sNext : Fr → Sto → RS := fun fr st => .ok .next fr st
def sBrk : Fr → Sto → RS := fun fr st => .ok .brk fr st
def sCont : Fr → Sto → RS := fun fr st => .ok .cont fr st
def sStuck : Fr → Sto → RS := fun _ _ => .stuck
def RS.seq : RS → (Fr → Sto → RS) → RS
  | .ok .next fr st, k => k fr st
  | .ok .brk fr st, _ => .ok .brk fr st
  | .ok .cont fr st, _ => .ok .cont fr st
  | .ok (.ret v) fr st, _ => .ok (.ret v) fr st
  | .exc e fr st, _ => .exc e fr st
  | .stuck, _ => .stuck
@[simp] theorem RS.seq_next (fr : Fr) (st : Sto) (k : Fr → Sto → RS) : (RS.ok .next fr st).seq k = k fr st := rfl
@[simp] theorem RS.seq_brk (fr : Fr) (st : Sto) (k : Fr → Sto → RS) : (RS.ok .brk fr st).seq k = .ok .brk fr st := rfl
@[simp] theorem RS.seq_cont (fr : Fr) (st : Sto) (k : Fr → Sto → RS) : (RS.ok .cont fr st).seq k = .ok .cont fr st := rfl
@[simp] theorem RS.seq_ret (v : AV) (fr : Fr) (st : Sto) (k : Fr → Sto → RS) : (RS.ok (.ret v) fr st).seq k = .ok (.ret v) fr st := rfl
@[simp] theorem RS.seq_exc (e : Exn) (fr : Fr) (st : Sto) (k : Fr → Sto → RS) : (RS.exc e fr st).seq k = .exc e fr st := rfl
@[simp] theorem RS.seq_stuck (k : Fr → Sto → RS) : RS.stuck.seq k = .stuck := rfl
def sSeq (a b : Fr → Sto → RS) : Fr → Sto → RS := fun fr st => (a fr st).seq b
/-- an expression's answer handed on -/
def RS.of {α : Type} (fr : Fr) : R α → (α → Sto → RS) → RS
  | .ok a st, k => k a st
  | .exc e st, _ => .exc e fr st
  | .stuck, _ => .stuck
@[simp] theorem RS.of_ok {α : Type} (fr : Fr) (a : α) (st : Sto) (k : α → Sto → RS) : RS.of fr (.ok a st) k = k a st := rfl
@[simp] theorem RS.of_exc {α : Type} (fr : Fr) (e : Exn) (st : Sto) (k : α → Sto → RS) : RS.of fr (.exc e st) k = .exc e fr st := rfl
@[simp] theorem RS.of_stuck {α : Type} (fr : Fr) (k : α → Sto → RS) : RS.of fr .stuck k = .stuck := rfl
def sAsg (t : Tgt) (m : Fr → M AV) : Fr → Sto → RS := fun fr st => RS.of fr (m fr st) fun v st1 => match setTgt t v fr with
  | some fr1 => .ok .next fr1 st1
  | none => .stuck
def sRet (m : Fr → M AV) : Fr → Sto → RS := fun fr st => RS.of fr (m fr st) fun v st1 => .ok (.ret v) fr st1
def sRetN : Fr → Sto → RS := fun fr st => .ok (.ret .non) fr st
def sExp (m : Fr → M AV) : Fr → Sto → RS := fun fr st => RS.of fr (m fr st) fun _ st1 => .ok .next fr st1
def sIf (t : Fr → M Bool) (a b : Fr → Sto → RS) : Fr → Sto → RS := fun fr st => RS.of fr (t fr st) fun c st1 => if c = true then a fr st1 else b fr st1

section
variable {c : MC} {W : WX} {D : Ends} {σ : L2.St} {H : Hp}
theorem liftS {β : Type} {X : Type} {P : β → Rho → Hp → Prop} {m : Fr → M β} {k : Fr → β → Sto → RS} (h : tMs c W (fun fr st => RS.of fr (m fr st) (k fr)) D σ H) (hp : ∀ (b : β) (ρ : Rho) (H1 : Hp) (fr : Fr) (st : Sto), Rep c ρ fr st σ H1 → PstS c W ρ H1 D (k fr b st) → P b ρ H1) :
    tG c W [] (fun _ => m) P σ H := by
  obtain ⟨ρ, fr, st, r, p⟩ := h
  refine ⟨ρ, fr, st, [], r, .nil, ?_⟩
  show Pst c W ρ fr σ H _ (m fr st)
  have p : PstS c W ρ H D (RS.of fr (m fr st) (k fr)) := p
  cases e : m fr st with
  | ok v st1 =>
    simp only [e, RS.of_ok] at p
    exact fun ρ' H' s r' => hp v ρ' H' fr st1 r' (p.mono s)
  | exc x st1 =>
    simp only [e, RS.of_exc] at p
    exact fun ρ' cl d H' s r' ex => p ρ' σ cl d H' s r' ex
  | stuck => simp only [e, RS.of_stuck] at p; exact p.elim
theorem liftV {m : Fr → M AV} {k : Fr → AV → Sto → RS} (h : tMs c W (fun fr st => RS.of fr (m fr st) (k fr)) D σ H) : tM c W m σ H fun x H1 => ∃ ρ fr st v, Rep c ρ fr st σ H1 ∧ VR c ρ H1 v x ∧ PstS c W ρ H1 D (k fr v st) :=
  liftS (X := AV) h fun v ρ H1 fr st r p x hx => ⟨ρ, fr, st, v, r, hx, p⟩
theorem liftB {m : Fr → M Bool} {k : Fr → Bool → Sto → RS} (h : tMs c W (fun fr st => RS.of fr (m fr st) (k fr)) D σ H) : tMb c W m σ H fun b H1 => ∃ ρ fr st, Rep c ρ fr st σ H1 ∧ PstS c W ρ H1 D (k fr b st) :=
  liftS (X := AV) h fun v ρ H1 fr st r p => ⟨ρ, fr, st, r, p⟩
theorem liftI {m : Fr → M Its} {k : Fr → Its → Sto → RS} (h : tMs c W (fun fr st => RS.of fr (m fr st) (k fr)) D σ H) : tMi c W m σ H fun J H1 => ∃ I ρ fr st, Rep c ρ fr st σ H1 ∧ WkM c J I ρ H1 ∧ PstS c W ρ H1 D (k fr I st) :=
  liftS (X := AV) h fun v ρ H1 fr st r p J hJ => ⟨v, ρ, fr, st, r, hJ, p⟩
theorem PstS.here {ρ : Rho} {fr : Fr} {st : Sto} (r : Rep c ρ fr st σ H) (p : PstS c W ρ H D (.ok .next fr st)) : D.nx σ H := p ρ σ H (Stp.refl _ _) r
end
section
variable {X : Cx} {G : String → Option Addr} {W : WX} {tg iter e a b : Expr} {es : List Expr} {pos p : Pos} {st s1 : Stmt} {rest q1 q2 : List Stmt} {ma mb : Fr → M AV} {m n : Fr → Sto → RS} {t : Fr → M Bool}
theorem mss_nil : MSs X G W [] sNext := pss_imp pss_nil fun D σ H q => by
  obtain ⟨ρ, fr, st, r, p⟩ := q
  exact PstS.here r p
theorem mss_cons (h1 : MS X G W st m) (h2 : MSs X G W rest n) : MSs X G W (st :: rest) (sSeq m n) := pss_imp (pss_cons h1 h2) fun D σ H q => by
  obtain ⟨ρ, fr, st, r, p⟩ := q
  refine ⟨ρ, fr, st, r, ?_⟩
  have p : PstS (cx X G) W ρ H D ((m fr st).seq n) := p
  cases e : m fr st with
  | ok f fr1 st1 =>
    rw [e] at p
    cases f with
    | next => exact fun ρ' σ' H' s r' => ⟨ρ', fr1, st1, r', PstS.mono s p⟩
    | brk => exact p
    | cont => exact p
    | ret v => exact p
  | exc x fr1 st1 => rw [e] at p; exact p
  | stuck => rw [e] at p; exact p.elim
theorem mss_one (h1 : MS X G W st m) : MSs X G W [st] m := pss_one h1
theorem ms_pass : MS X G W (.Pass pos) sNext := ps_imp ps_pass fun D σ H q => by
  obtain ⟨ρ, fr, st, r, p⟩ := q
  exact PstS.here r p
theorem ms_brk : MS X G W (.Break pos) sBrk := ps_imp ps_break fun D σ H q => by
  obtain ⟨ρ, fr, st, r, p⟩ := q
  exact p ρ σ H (Stp.refl _ _) r
theorem ms_cont : MS X G W (.Continue pos) sCont := ps_imp ps_continue fun D σ H q => by
  obtain ⟨ρ, fr, st, r, p⟩ := q
  exact p ρ σ H (Stp.refl _ _) r
theorem ms_stuck : MS X G W st sStuck := ps_imp ps_never fun D σ H q => by
  obtain ⟨ρ, fr, st, r, p⟩ := q
  exact p.elim
theorem mss_stuck : MSs X G W rest sStuck := pss_imp pss_never fun D σ H q => by
  obtain ⟨ρ, fr, st, r, p⟩ := q
  exact p.elim
theorem ms_ret (h : ME X G W e ma) : MS X G W (.Return (some e) pos) (sRet ma) := ps_imp (ps_ret h) fun D σ H q =>
  tG.imp (liftV q) fun v ρ H1 z x hx => by
    obtain ⟨ρ, fr, st, v, r, hx, p⟩ := z x hx
    exact p ρ σ x H1 (Stp.refl _ _) r hx
theorem ms_retN : MS X G W (.Return none pos) sRetN := ps_imp ps_retN fun D σ H q => by
  obtain ⟨ρ, fr, st, r, p⟩ := q
  exact p ρ σ .non H (Stp.refl _ _) r .non
theorem ms_exp (h : ME X G W e ma) (hs : swapsWith e none pos.line X.env = pure false := by rfl) : MS X G W (.Expr e pos) (sExp ma) := ps_imp (ps_expr h hs) fun D σ H q =>
  tG.imp (liftV q) fun v ρ H1 z x hx => by
    obtain ⟨ρ, fr, st, v, r, hx, p⟩ := z x hx
    exact PstS.here r p
theorem ms_if (hc : MT X G W e t) (ha : MSs X G W q1 m) (hb : MSs X G W q2 n) : MS X G W (.If e q1 q2 pos) (sIf t m n) := ps_imp (ps_if hc ha hb) fun D σ H q =>
  tG.imp (liftB q) fun b ρ H1 z => by
    obtain ⟨ρ, fr, st, r, p⟩ := z
    cases b with
    | true => exact ⟨ρ, fr, st, r, p⟩
    | false => exact ⟨ρ, fr, st, r, p⟩
theorem ms_asg {tt : Tgt} (he : ME X G W e ma) (hg : PG X tg (gTgt X.K tt)) (hs : swapsWithSole [tg] e pos.line X.env = pure false := by rfl) (hw : swappedStores [tg] e X.env = pure none := by rfl)
    (h1 : (assignEach [tg] X.env).map (·.2) = [assign tg X.env] := by rfl) : MS X G W (.Assign [tg] e pos) (sAsg tt ma) := ps_imp (ps_asg he hg hs hw h1) fun D σ H q =>
  tG.imp (liftV q) fun v ρ H1 z x hx => by
    obtain ⟨ρ, fr, st, v, r, hx, p⟩ := z x hx
    cases ef : setTgt tt v fr with
    | none => simp only [ef] at p; exact p.elim
    | some fr1 =>
      simp only [ef] at p
      exact gTgt_ok (vs := tt.ix) r hx ef (fun _ h => h) fun σ' r' _ => PstS.here r' p
theorem ms_set {i : Nat} {x : Str} {pos' : Pos} (hN : X.N.Nodup) (hi : X.N[i]? = some x) (hx : Loc X.env.scope x) (he : ME X G W e ma) (hs : swapsWith e (some (.Name x pos')) pos.line X.env = pure false := by rfl) (hf : X.fn x = true ∨ X.env.scope.names.lookup x = some .local := by first | exact .inl rfl | exact .inr rfl | assumption) :
    MS X G W (.Assign [.Name x pos'] e pos) (sAsg (.nm i) ma) := ps_imp (ps_set hN hi hx he hs hf) fun D σ H q =>
  tG.imp (liftV q) fun v ρ H1 z x hx => by
    obtain ⟨ρ, fr, st, v, r, hx, p⟩ := z x hx
    exact p ρ _ H1 (Stp.refl _ _) (r.slot hx)

/-! ### for, while -/
/-- the loop over the items from here on -/
def forL (I : Its) (t : Tgt) (b : Fr → Sto → RS) : List AV → Fr → Sto → RS
  | [], fr, st => if gdok I st then .ok .next fr st else .stuck
  | x :: xs, fr, st => if gdok I st then (match setTgt t x fr with
    | some fr1 => (match b fr1 st with
      | .ok .next fr2 st2 => forL I t b xs fr2 st2
      | .ok .cont fr2 st2 => forL I t b xs fr2 st2
      | .ok .brk fr2 st2 => .ok .next fr2 st2
      | .ok (.ret v) fr2 st2 => .ok (.ret v) fr2 st2
      | .exc e fr2 st2 => .exc e fr2 st2
      | .stuck => .stuck)
    | none => .stuck) else .stuck
def sFor (t : Tgt) (mi : Fr → M Its) (b : Fr → Sto → RS) : Fr → Sto → RS := fun fr st => RS.of fr (mi fr st) fun I st1 => forL I t b I.its fr st1
theorem ms_for {tt : Tgt} {mi : Fr → M Its} {mbody : Fr → Sto → RS} (hp : PassesOwn (model X.prog X.w) X.A X.env X.xe) (hc : X.calm = true) (hi : MI X G W tg iter mi) (hg : PG X tg (gTgt X.K tt)) (hb : MSs X G W rest mbody)
    (hs : ∀ x, foldedSetIterable iter X.env x = pure x := by intro _; rfl) : MS X G W (.For tg iter rest [] pos) (sFor tt mi mbody) := ps_imp (ps_for hp hc hi hg hb hs) fun D σ H q => by
  refine tMi_imp (liftI q) fun J H1 hJ => ?_
  obtain ⟨I, ρ1, fr1, st1, r1, wk, p1⟩ := hJ
  refine ⟨fun i m σ' H' => m = I.its.length - i ∧ i ≤ I.its.length ∧ ∃ ρ' fr' st', Stp ρ1 H1 ρ' H' ∧ Rep (cx X G) ρ' fr' st' σ' H' ∧ PstS (cx X G) W ρ' H' D (forL I tt mbody (I.its.drop i) fr' st'),
    ⟨I.its.length, by simp, Nat.zero_le _, ρ1, fr1, st1, Stp.refl _ _, r1, by simpa using p1⟩, ?_⟩
  rintro i m σ' H' ⟨rfl, hi, ρ', fr', st', s, r, p⟩
  by_cases hlt : i < I.its.length
  · rw [drop_at hlt] at p
    simp only [forL] at p
    by_cases hg : gdok I st'
    case neg => rw [if_neg hg] at p; exact p.elim
    rw [if_pos hg] at p
    obtain ⟨go, yl⟩ := (wk i ρ' H' s.w (gdok_ok r hg)).1 hlt
    refine .inr ⟨go, fun σ2 H2 => i + 1 ≤ I.its.length ∧ ∃ ρ2 fr2 st2, Stp ρ1 H1 ρ2 H2 ∧ Rep (cx X G) ρ2 fr2 st2 σ2 H2 ∧ PstS (cx X G) W ρ2 H2 D (forL I tt mbody (I.its.drop (i + 1)) fr2 st2),
      fun σ2 H2 h => ⟨I.its.length - (i + 1), by omega, rfl, h⟩, fun x H2 hy => ?_⟩
    obtain ⟨hH2, hv⟩ := yl x H2 hy
    have hvx := hv _ (List.getElem?_eq_getElem hlt)
    have s2r2 : Stp ρ' H' ρ' H2 ∧ Rep (cx X G) ρ' fr' st' σ' H2 := by
      rcases hH2 with e | ⟨T, o, hT, e⟩
      · subst e; exact ⟨Stp.refl _ _, r⟩
      · subst e; exact ⟨Stp.tmp hT, r.tmp hT⟩
    obtain ⟨s2, r2⟩ := s2r2
    cases ef : setTgt tt I.its[i] fr' with
    | none => simp only [ef] at p; exact p.elim
    | some fr3 =>
      simp only [ef] at p
      refine gTgt_ok (vs := tt.ix) r2 hvx ef (fun _ h => h) fun σ3 r3 _ => ⟨ρ', fr3, st', r3, ?_⟩
      have s12 := s.trans s2
      cases eb : mbody fr3 st' with
      | ok f fr4 st4 =>
        simp only [eb] at p
        cases f with
        | next => exact fun ρ4 σ4 H4 s4 r4 => ⟨hlt, ρ4, fr4, st4, s12.trans s4, r4, PstS.mono (s2.trans s4) p⟩
        | cont => exact fun ρ4 σ4 H4 s4 r4 => ⟨hlt, ρ4, fr4, st4, s12.trans s4, r4, PstS.mono (s2.trans s4) p⟩
        | brk => exact fun ρ4 σ4 H4 s4 r4 => p ρ4 σ4 H4 (s2.trans s4) r4
        | ret v => exact fun ρ4 σ4 x4 H4 s4 r4 h4 => p ρ4 σ4 x4 H4 (s2.trans s4) r4 h4
      | exc x fr4 st4 =>
        simp only [eb] at p
        exact fun ρ4 σ4 cl d H4 s4 r4 h4 => p ρ4 σ4 cl d H4 (s2.trans s4) r4 h4
      | stuck => simp only [eb] at p; exact p.elim
  · have e : i = I.its.length := by omega
    subst e
    rw [List.drop_length] at p
    simp only [forL] at p
    by_cases hg : gdok I st'
    case neg => rw [if_neg hg] at p; exact p.elim
    rw [if_pos hg] at p
    exact .inl ⟨(wk _ ρ' H' s.w (gdok_ok r hg)).2 rfl, PstS.here r p⟩
/-- at most n turns -/
def whileL (t : Fr → M Bool) (b : Fr → Sto → RS) : Nat → Fr → Sto → RS
  | 0, _, _ => .stuck
  | n + 1, fr, st => RS.of fr (t fr st) fun c st1 => if c = true then (match b fr st1 with
      | .ok .next fr2 st2 => whileL t b n fr2 st2
      | .ok .cont fr2 st2 => whileL t b n fr2 st2
      | .ok .brk fr2 st2 => .ok .next fr2 st2
      | .ok (.ret v) fr2 st2 => .ok (.ret v) fr2 st2
      | .exc e fr2 st2 => .exc e fr2 st2
      | .stuck => .stuck) else .ok .next fr st1
theorem while_more {t : Fr → M Bool} {b : Fr → Sto → RS} : ∀ {n : Nat} {fr : Fr} {st : Sto}, whileL t b n fr st ≠ .stuck → ∀ k, whileL t b (n + k) fr st = whileL t b n fr st
  | 0, _, _, h => absurd rfl h
  | n + 1, fr, st, h => fun k => by
    rw [show n + 1 + k = (n + k) + 1 by omega]
    simp only [whileL] at h ⊢
    cases e : t fr st with
    | stuck => rfl
    | exc x st1 => rfl
    | ok c st1 =>
      simp only [e, RS.of_ok] at h ⊢
      cases c with
      | false => rfl
      | true =>
        simp only [if_true] at h ⊢
        cases eb : b fr st1 with
        | stuck => rfl
        | exc x fr2 st2 => rfl
        | ok f fr2 st2 =>
          simp only [eb] at h ⊢
          cases f with
          | next => exact while_more h k
          | cont => exact while_more h k
          | brk => rfl
          | ret v => rfl
def sWhile (n : Nat) (t : Fr → M Bool) (b : Fr → Sto → RS) : Fr → Sto → RS := whileL t b n
theorem sWhile_eq {t : Fr → M Bool} {b : Fr → Sto → RS} {n m : Nat} {fr : Fr} {st : Sto} {r : RS} (h : whileL t b n fr st = r) (hr : r ≠ .stuck) (hn : n ≤ m) : sWhile m t b fr st = r := by
  unfold sWhile
  obtain ⟨k, rfl⟩ := Nat.exists_eq_add_of_le hn
  rw [while_more (by rw [h]; exact hr), h]
theorem ms_while {fuel : Nat} {mbody : Fr → Sto → RS} (hp : PassesOwn (model X.prog X.w) X.A X.env X.xe) (hc : MT X G W e t) (hb : MSs X G W rest mbody) : MS X G W (.While e rest [] pos) (sWhile fuel t mbody) := ps_imp (ps_while hp hc hb) fun D σ H q => by
  obtain ⟨ρ, fr, st, r, p⟩ := q
  have key : ∃ n, PstS (cx X G) W ρ H D (whileL t mbody n fr st) := ⟨fuel, p⟩
  obtain ⟨n, p⟩ := key
  refine ⟨fun m σ' H' => ∃ ρ' fr' st', Rep (cx X G) ρ' fr' st' σ' H' ∧ PstS (cx X G) W ρ' H' D (whileL t mbody m fr' st'), ⟨n, ρ, fr, st, r, p⟩, ?_⟩
  rintro m σ' H' ⟨ρ', fr', st', r', p'⟩
  cases m with
  | zero => exact p'.elim
  | succ m =>
    have q : tMs (cx X G) W (fun fr st => RS.of fr (t fr st) fun c st1 => if c = true then (match mbody fr st1 with
      | .ok .next fr2 st2 => whileL t mbody m fr2 st2
      | .ok .cont fr2 st2 => whileL t mbody m fr2 st2
      | .ok .brk fr2 st2 => .ok .next fr2 st2
      | .ok (.ret v) fr2 st2 => .ok (.ret v) fr2 st2
      | .exc e fr2 st2 => .exc e fr2 st2
      | .stuck => .stuck) else .ok .next fr st1) D σ' H' := ⟨ρ', fr', st', r', p'⟩
    refine tG.imp (liftB q) fun b _ H1 z => ?_
    obtain ⟨ρ1, fr1, st1, r1, p1⟩ := z
    cases b with
    | false => exact PstS.here r1 p1
    | true =>
      rw [if_pos rfl] at p1
      unfold PB
      refine iteT ?_
      refine ⟨fun σ2 H2 => ∃ ρ2 fr2 st2, Rep (cx X G) ρ2 fr2 st2 σ2 H2 ∧ PstS (cx X G) W ρ2 H2 D (whileL t mbody m fr2 st2), fun σ2 H2 h => ⟨m, Nat.lt_succ_self _, h⟩, ρ1, fr1, st1, r1, ?_⟩
      cases eb : mbody fr1 st1 with
      | ok f fr4 st4 =>
        simp only [eb] at p1
        cases f with
        | next => exact fun ρ4 σ4 H4 s4 r4 => ⟨ρ4, fr4, st4, r4, PstS.mono s4 p1⟩
        | cont => exact fun ρ4 σ4 H4 s4 r4 => ⟨ρ4, fr4, st4, r4, PstS.mono s4 p1⟩
        | brk => exact fun ρ4 σ4 H4 s4 r4 => p1 ρ4 σ4 H4 s4 r4
        | ret v => exact fun ρ4 σ4 x4 H4 s4 r4 h4 => p1 ρ4 σ4 x4 H4 s4 r4 h4
      | exc x fr4 st4 =>
        simp only [eb] at p1
        exact fun ρ4 σ4 cl d H4 s4 r4 h4 => p1 ρ4 σ4 cl d H4 s4 r4 h4
      | stuck => simp only [eb] at p1; exact p1.elim
end
end MM
set_option Elab.async false
set_option linter.all false
set_option maxRecDepth 100000
set_option maxHeartbeats 4000000
/-! The mirror's calls: a def's promise, its body, kept or pure. -/
namespace MM
open PySem PySem.Spec PyProof.Rows L2

abbrev EW (E : XK) : WX := fun cl d _ H => E cl d H
/-- a def's promise by its mirror -/
def spM (c : MC) (n : Nat) (pf : List AV → M AV) : Sp := fun vs H Q E => vs.length = n ∧ tG c (EW E) vs (fun avs _ => pf avs) (PV c Q) [] H
/-- the slots at the start -/
def startF (n : Nat) (avs : List AV) : Fr := avs.map some ++ List.replicate (n - avs.length) none

/-! ### data without references to the store -/
mutual
def pfree : AV → Bool
  | .non => true
  | .bl _ => true
  | .int _ => true
  | .str _ => true
  | .tup xs => pfrees xs
  | .ktup xs => pfrees xs
  | .lst xs => pfrees xs
  | .dk kvs => pfreek kvs
  | .dt kvs => pfreet kvs
  | .ins _ fs => pfreef fs
  | .ptr _ => false
  | .glo _ => true
  | .ty _ => true
def pfrees : List AV → Bool
  | [] => true
  | x :: xs => pfree x && pfrees xs
def pfreek : List (Key × AV) → Bool
  | [] => true
  | (_, x) :: xs => pfree x && pfreek xs
def pfreet : List (List Key × AV) → Bool
  | [] => true
  | (_, x) :: xs => pfree x && pfreet xs
def pfreef : List (String × AV) → Bool
  | [] => true
  | (_, x) :: xs => pfree x && pfreef xs
end
/-! ### the store's objects put in as data -/
mutual
def subs (f : Nat → Option AV) : AV → Option AV
  | .non => some .non
  | .bl b => some (.bl b)
  | .int i => some (.int i)
  | .str x => some (.str x)
  | .tup xs => (subss f xs).map .tup
  | .ktup xs => (subss f xs).map .ktup
  | .lst xs => (subss f xs).map .lst
  | .dk kvs => (subsk f kvs).map .dk
  | .dt kvs => (subst f kvs).map .dt
  | .ins C fs => (subsf f fs).map (.ins C)
  | .ptr n => f n
  | .glo x => some (.glo x)
  | .ty x => some (.ty x)
def subss (f : Nat → Option AV) : List AV → Option (List AV)
  | [] => some []
  | x :: xs => match subs f x, subss f xs with
    | some y, some ys => some (y :: ys)
    | _, _ => none
def subsk (f : Nat → Option AV) : List (Key × AV) → Option (List (Key × AV))
  | [] => some []
  | (k, x) :: xs => match subs f x, subsk f xs with
    | some y, some ys => some ((k, y) :: ys)
    | _, _ => none
def subst (f : Nat → Option AV) : List (List Key × AV) → Option (List (List Key × AV))
  | [] => some []
  | (k, x) :: xs => match subs f x, subst f xs with
    | some y, some ys => some ((k, y) :: ys)
    | _, _ => none
def subsf (f : Nat → Option AV) : List (String × AV) → Option (List (String × AV))
  | [] => some []
  | (k, x) :: xs => match subs f x, subsf f xs with
    | some y, some ys => some ((k, y) :: ys)
    | _, _ => none
end
def frzO (f : Nat → Option AV) : Ob → Option AV
  | .lst xs => (subss f xs).map .lst
  | .dk kvs => (subsk f kvs).map .dk
  | .dt kvs => (subst f kvs).map .dt
  | .ins C fs => (subsf f fs).map (.ins C)
def frzT (st : Sto) : Nat → Nat → Option AV
  | 0, _ => none
  | k + 1, n => match st[n]? with
    | some o => frzO (frzT st k) o
    | none => none
/-- by value -/
def frz (st : Sto) (v : AV) : Option AV := subs (frzT st 6) v
def frzE (st : Sto) (e : Exn) : Option Exn := match e.fs with
  | none => some e
  | some fs => (subsf (frzT st 6) fs).map fun gs => ⟨e.cls, some gs⟩
mutual
theorem subs_free {f : Nat → Option AV} : ∀ {v : AV}, pfree v = true → subs f v = some v
  | .non, _ => rfl
  | .bl _, _ => rfl
  | .int _, _ => rfl
  | .str _, _ => rfl
  | .tup xs, h => by simp only [pfree] at h; simp [subs, subss_free h]
  | .ktup xs, h => by simp only [pfree] at h; simp [subs, subss_free h]
  | .lst xs, h => by simp only [pfree] at h; simp [subs, subss_free h]
  | .dk kvs, h => by simp only [pfree] at h; simp [subs, subsk_free h]
  | .dt kvs, h => by simp only [pfree] at h; simp [subs, subst_free h]
  | .ins _ fs, h => by simp only [pfree] at h; simp [subs, subsf_free h]
  | .ptr _, h => by simp [pfree] at h
  | .glo _, _ => rfl
  | .ty _, _ => rfl
theorem subss_free {f : Nat → Option AV} : ∀ {v : List AV}, pfrees v = true → subss f v = some v
  | [], _ => rfl
  | x :: xs, h => by
    simp only [pfrees, Bool.and_eq_true] at h
    simp [subss, subs_free h.1, subss_free h.2]
theorem subsk_free {f : Nat → Option AV} : ∀ {v : List (Key × AV)}, pfreek v = true → subsk f v = some v
  | [], _ => rfl
  | (k, x) :: xs, h => by
    simp only [pfreek, Bool.and_eq_true] at h
    simp [subsk, subs_free h.1, subsk_free h.2]
theorem subst_free {f : Nat → Option AV} : ∀ {v : List (List Key × AV)}, pfreet v = true → subst f v = some v
  | [], _ => rfl
  | (k, x) :: xs, h => by
    simp only [pfreet, Bool.and_eq_true] at h
    simp [MM.subst, subs_free h.1, subst_free h.2]
theorem subsf_free {f : Nat → Option AV} : ∀ {v : List (String × AV)}, pfreef v = true → subsf f v = some v
  | [], _ => rfl
  | (k, x) :: xs, h => by
    simp only [pfreef, Bool.and_eq_true] at h
    simp [subsf, subs_free h.1, subsf_free h.2]
end
section
variable {c : MC} {ρ ρ' : Rho} {H : Hp}
mutual
theorem VR.low : ∀ {v : AV} {x : V}, VR c ρ H v x → pfree v = true → VR c ⟨[], ρ.m ++ ρ.h⟩ H v x
  | _, _, .non, _ => .non
  | _, _, .bl b, _ => .bl b
  | _, _, .int b, _ => .int b
  | _, _, .str b, _ => .str b
  | _, _, .ty b, _ => .ty b
  | _, _, .tup h r, e => .tup h (VRs.low r (by simpa [pfree] using e))
  | _, _, .ktup h r, e => .ktup h (VRs.low r (by simpa [pfree] using e))
  | _, _, .lst h n r, e => .lst h (fun z => n (by simpa [Rho.has] using z)) (VRs.low r (by simpa [pfree] using e))
  | _, _, .dk h n r, e => .dk h (fun z => n (by simpa [Rho.has] using z)) (VRk.low r (by simpa [pfree] using e))
  | _, _, .dt h n r, e => .dt h (fun z => n (by simpa [Rho.has] using z)) (VRt.low r (by simpa [pfree] using e))
  | _, _, .ins g h n r, e => .ins g h (fun z => n (by simpa [Rho.has] using z)) (VRf.low r (by simpa [pfree] using e))
  | _, _, .ptr h, e => by simp [pfree] at e
  | _, _, .glo h, _ => .glo h
theorem VRs.low : ∀ {v : List AV} {x : List V}, VRs c ρ H v x → pfrees v = true → VRs c ⟨[], ρ.m ++ ρ.h⟩ H v x
  | _, _, .nil, _ => .nil
  | _, _, .cons h r, e => by
    simp only [pfrees, Bool.and_eq_true] at e
    exact .cons (VR.low h e.1) (VRs.low r e.2)
theorem VRk.low : ∀ {v : List (Key × AV)} {x : List (Key × V)}, VRk c ρ H v x → pfreek v = true → VRk c ⟨[], ρ.m ++ ρ.h⟩ H v x
  | _, _, .nil, _ => .nil
  | _, _, .cons h r, e => by
    simp only [pfreek, Bool.and_eq_true] at e
    exact .cons (VR.low h e.1) (VRk.low r e.2)
theorem VRt.low : ∀ {v : List (List Key × AV)} {x : List (List Key × V)}, VRt c ρ H v x → pfreet v = true → VRt c ⟨[], ρ.m ++ ρ.h⟩ H v x
  | _, _, .nil, _ => .nil
  | _, _, .cons h r, e => by
    simp only [pfreet, Bool.and_eq_true] at e
    exact .cons (VR.low h e.1) (VRt.low r e.2)
theorem VRf.low : ∀ {v : List (String × AV)} {x : List (Str × V)}, VRf c ρ H v x → pfreef v = true → VRf c ⟨[], ρ.m ++ ρ.h⟩ H v x
  | _, _, .nil, _ => .nil
  | _, _, .cons h r, e => by
    simp only [pfreef, Bool.and_eq_true] at e
    exact .cons (VR.low h e.1) (VRf.low r e.2)
end
/-- what f tells of the store holds as data -/
def Tells (c : MC) (ρ ρ0 : Rho) (H : Hp) (f : Nat → Option AV) : Prop := ∀ (n : Nat) (a : Addr) (v : AV), ρ.m[n]? = some a → f n = some v → VR c ρ0 H v (.ref a)
section
variable {ρ0 : Rho} {f : Nat → Option AV} (hn : ∀ a, ρ0.has a → ρ.has a) (ht : Tells c ρ ρ0 H f)
include hn ht
mutual
theorem VR.subs : ∀ {v w : AV} {x : V}, VR c ρ H v x → MM.subs f v = some w → VR c ρ0 H w x
  | _, _, _, .non, e => by simp only [MM.subs, Option.some.injEq] at e; subst e; exact .non
  | _, _, _, .bl b, e => by simp only [MM.subs, Option.some.injEq] at e; subst e; exact .bl b
  | _, _, _, .int b, e => by simp only [MM.subs, Option.some.injEq] at e; subst e; exact .int b
  | _, _, _, .str b, e => by simp only [MM.subs, Option.some.injEq] at e; subst e; exact .str b
  | _, _, _, .ty b, e => by simp only [MM.subs, Option.some.injEq] at e; subst e; exact .ty b
  | _, _, _, .tup h r, e => by
    obtain ⟨ys, e1, e2⟩ := Option.map_eq_some_iff.mp (by simpa only [MM.subs] using e)
    subst e2
    exact .tup h (VRs.subs r e1)
  | _, _, _, .ktup h r, e => by
    obtain ⟨ys, e1, e2⟩ := Option.map_eq_some_iff.mp (by simpa only [MM.subs] using e)
    subst e2
    exact .ktup h (VRs.subs r e1)
  | _, _, _, .lst h n r, e => by
    obtain ⟨ys, e1, e2⟩ := Option.map_eq_some_iff.mp (by simpa only [MM.subs] using e)
    subst e2
    exact .lst h (fun z => n (hn _ z)) (VRs.subs r e1)
  | _, _, _, .dk h n r, e => by
    obtain ⟨ys, e1, e2⟩ := Option.map_eq_some_iff.mp (by simpa only [MM.subs] using e)
    subst e2
    exact .dk h (fun z => n (hn _ z)) (VRk.subs r e1)
  | _, _, _, .dt h n r, e => by
    obtain ⟨ys, e1, e2⟩ := Option.map_eq_some_iff.mp (by simpa only [MM.subs] using e)
    subst e2
    exact .dt h (fun z => n (hn _ z)) (VRt.subs r e1)
  | _, _, _, .ins g h n r, e => by
    obtain ⟨ys, e1, e2⟩ := Option.map_eq_some_iff.mp (by simpa only [MM.subs] using e)
    subst e2
    exact .ins g h (fun z => n (hn _ z)) (VRf.subs r e1)
  | _, _, _, .ptr h, e => ht _ _ _ h (by simpa only [MM.subs] using e)
  | _, _, _, .glo h, e => by simp only [MM.subs, Option.some.injEq] at e; subst e; exact .glo h
theorem VRs.subs : ∀ {v w : List AV} {x : List V}, VRs c ρ H v x → subss f v = some w → VRs c ρ0 H w x
  | _, _, _, .nil, e => by simp only [subss, Option.some.injEq] at e; subst e; exact .nil
  | _, _, _, .cons h r, e => by
    simp only [subss] at e
    split at e
    · rename_i y ys h1 h2
      cases e
      exact .cons (VR.subs h h1) (VRs.subs r h2)
    · cases e
theorem VRk.subs : ∀ {v w : List (Key × AV)} {x : List (Key × V)}, VRk c ρ H v x → subsk f v = some w → VRk c ρ0 H w x
  | _, _, _, .nil, e => by simp only [subsk, Option.some.injEq] at e; subst e; exact .nil
  | _, _, _, .cons h r, e => by
    simp only [subsk] at e
    split at e
    · rename_i y ys h1 h2
      cases e
      exact .cons (VR.subs h h1) (VRk.subs r h2)
    · cases e
theorem VRt.subs : ∀ {v w : List (List Key × AV)} {x : List (List Key × V)}, VRt c ρ H v x → MM.subst f v = some w → VRt c ρ0 H w x
  | _, _, _, .nil, e => by simp only [MM.subst, Option.some.injEq] at e; subst e; exact .nil
  | _, _, _, .cons h r, e => by
    simp only [MM.subst] at e
    split at e
    · rename_i y ys h1 h2
      cases e
      exact .cons (VR.subs h h1) (VRt.subs r h2)
    · cases e
theorem VRf.subs : ∀ {v w : List (String × AV)} {x : List (Str × V)}, VRf c ρ H v x → subsf f v = some w → VRf c ρ0 H w x
  | _, _, _, .nil, e => by simp only [subsf, Option.some.injEq] at e; subst e; exact .nil
  | _, _, _, .cons h r, e => by
    simp only [subsf] at e
    split at e
    · rename_i y ys h1 h2
      cases e
      exact .cons (VR.subs h h1) (VRf.subs r h2)
    · cases e
end
end
theorem frzT_tells {fr : Fr} {st : Sto} {σ : L2.St} {ρ0 : Rho} (r : Rep c ρ fr st σ H) (hn : ∀ a, ρ0.has a → ρ.has a) (hm : ∀ a, ρ0.has a → a ∉ ρ.m) : ∀ k, Tells c ρ ρ0 H (frzT st k)
  | 0, _, _, _, _, e => by simp [frzT] at e
  | k + 1, n, a, v, ha, e => by
    simp only [frzT] at e
    split at e
    · rename_i o ho
      obtain ⟨b, u, e1, e2, e3⟩ := r.ob n o ho
      rw [ha] at e1
      cases e1
      have na : ¬ ρ0.has a := fun z => hm a z (List.mem_of_getElem? ha)
      have ih := frzT_tells r hn hm k
      cases e3 with
      | lst q =>
        obtain ⟨ys, e1, e4⟩ := Option.map_eq_some_iff.mp (by simpa only [frzO] using e)
        subst e4
        exact .lst (.inl e2) na (VRs.subs hn ih q e1)
      | dk q =>
        obtain ⟨ys, e1, e4⟩ := Option.map_eq_some_iff.mp (by simpa only [frzO] using e)
        subst e4
        exact .dk (.inl e2) na (VRk.subs hn ih q e1)
      | dt q =>
        obtain ⟨ys, e1, e4⟩ := Option.map_eq_some_iff.mp (by simpa only [frzO] using e)
        subst e4
        exact .dt (.inl e2) na (VRt.subs hn ih q e1)
      | ins g q =>
        obtain ⟨ys, e1, e4⟩ := Option.map_eq_some_iff.mp (by simpa only [frzO] using e)
        subst e4
        exact .ins g e2 na (VRf.subs hn ih q e1)
    · cases e
end

/-! ### bodies -/
/-- the body on the caller's store -/
def runK (n : Nat) (ms : Fr → Sto → RS) : List AV → M AV := fun avs st => match ms (startF n avs) st with
  | .ok .next _ st1 => .ok .non st1
  | .ok (.ret v) _ st1 => .ok v st1
  | .exc e _ st1 => .exc e st1
  | _ => .stuck
/-- the body on a store of its own: data in, data out -/
inductive Z where
  | ok (v : AV)
  | exc (e : Exn)
  | stuck
def runZ (n : Nat) (ms : Fr → Sto → RS) (avs : List AV) : Z := match ms (startF n avs) [] with
  | .ok .next _ _ => .ok .non
  | .ok (.ret v) _ st1 => match frz st1 v with
    | some v' => .ok v'
    | none => .stuck
  | .exc e _ st1 => match frzE st1 e with
    | some e' => .exc e'
    | none => .stuck
  | _ => .stuck
/-- a function of data as a mirror -/
def pureM (z : List AV → Z) : List AV → M AV := fun avs st => if pfrees avs = true then (match z avs with
  | .ok v => .ok v st
  | .exc e => .exc e st
  | .stuck => .stuck) else .stuck
section
variable {c : MC} {ρ : Rho} {H : Hp} {Q : VK} {E : XK} {vs : List V}
theorem Rep.start {fr : Fr} {st : Sto} {σ : L2.St} {avs : List AV} (r : Rep c ρ fr st σ H) (q : VRs c ρ H avs vs) (N : List Str) : Rep c ρ (startF N.length avs) st (L2.start N vs) H := by
  refine r.reframe (by simp [startF, L2.start, q.len]) fun i v e => ?_
  unfold startF at e
  by_cases h : i < avs.length
  · rw [List.getElem?_append_left (by simpa using h), List.getElem?_map] at e
    cases ea : avs[i]? with
    | none => rw [ea] at e; cases e
    | some w =>
      rw [ea] at e
      simp only [Option.map_some, Option.some.injEq] at e
      subst e
      obtain ⟨x, e1, e2⟩ := q.get ea
      refine ⟨x, ?_, e2⟩
      unfold L2.start
      rw [List.getElem?_append_left (by rw [List.length_map, ← q.len]; exact h), List.getElem?_map, e1]
      rfl
  · rw [List.getElem?_append_right (by simpa using Nat.le_of_not_lt h), List.getElem?_replicate] at e
    split at e <;> cases e
theorem runK_ok {ms : Fr → Sto → RS} {N : List Str} {n : Nat} (h : spM c n (runK N.length ms) vs H Q E) : tMs c (EW E) ms { nx := fun _ H' => Q .non H', rt := Q } (L2.start N vs) H := by
  obtain ⟨hl, ρ, fr, st, avs, r, q, p⟩ := h
  refine ⟨ρ, startF N.length avs, st, r.start q N, ?_⟩
  have p : Pst c (EW E) ρ fr [] H (PV c Q) (runK N.length ms avs st) := p
  unfold runK at p
  have low : ∀ {ρ' fr' st' σ' H'}, Stp ρ H ρ' H' → Rep c ρ' fr' st' σ' H' → Rep c ρ' fr st' [] H' := fun s r' => r.back s r'
  cases e : ms (startF N.length avs) st with
  | stuck => rw [e] at p; exact p.elim
  | exc x fr1 st1 => rw [e] at p; exact fun ρ' σ' cl d H' s r' ex => p ρ' cl d H' s (low s r') ex
  | ok f fr1 st1 =>
    rw [e] at p
    cases f with
    | next => exact fun ρ' σ' H' s r' => p ρ' H' s (low s r') _ .non
    | brk => exact p.elim
    | cont => exact p.elim
    | ret v => exact fun ρ' σ' x H' s r' hx => p ρ' H' s (low s r') _ hx
theorem runZ_ok {ms : Fr → Sto → RS} {N : List Str} {n : Nat} (h : spM c n (pureM (runZ N.length ms)) vs H Q E) : tMs c (EW E) ms { nx := fun _ H' => Q .non H', rt := Q } (L2.start N vs) H := by
  obtain ⟨hl, ρ, fr, st, avs, r, q, p⟩ := h
  have p : Pst c (EW E) ρ fr [] H (PV c Q) (pureM (runZ N.length ms) avs st) := p
  unfold pureM at p
  by_cases hf : pfrees avs = true
  case neg => rw [if_neg hf] at p; exact p.elim
  rw [if_pos hf] at p
  have r0 : Rep c ⟨[], ρ.m ++ ρ.h⟩ [] [] [] H := ⟨rfl, rfl, fun i v e => by simp at e, fun i j a e => by simp at e, fun i o e => by simp at e, fun a ha => by
    rcases List.mem_append.mp ha with ha | ha
    · obtain ⟨_, _, u, _, _, e, _⟩ := r.at ha
      rw [e]; simp
    · exact r.hd a ha⟩
  refine ⟨⟨[], ρ.m ++ ρ.h⟩, startF N.length avs, [], r0.start (q.low hf) N, ?_⟩
  -- back on the caller's store
  have st0 : ∀ {ρ' H'}, Stp ⟨[], ρ.m ++ ρ.h⟩ H ρ' H' → Stp ρ H ρ H' ∧ Rep c ρ fr st [] H' := fun {ρ' H'} s => by
    have s0 : Stp ρ H ρ H' := ⟨⟨[], by simp, fun _ z => by simp at z⟩, fun _ z => z, fun _ z => .inl z, fun a u _ e => s.keep a u (by simp) e, s.tups, s.live⟩
    refine ⟨s0, r.grow s0 fun a ha => ?_⟩
    obtain ⟨_, _, u, _, _, e, _⟩ := r.at ha
    rw [e]
    exact s.keep a u (by simp) e
  have hn : ∀ {ρ' H'}, Stp ⟨[], ρ.m ++ ρ.h⟩ H ρ' H' → (∀ a, ρ.has a → ρ'.has a) ∧ ∀ a, ρ.has a → a ∉ ρ'.m := fun {ρ' H'} s => by
    refine ⟨fun a ha => .inr (s.sub a (by simpa [Rho.has] using ha)), fun a ha => s.outm (by simp) ?_⟩
    exact r0.hd a (by simpa [Rho.has] using ha)
  unfold runZ at p
  cases e : ms (startF N.length avs) [] with
  | stuck => rw [e] at p; exact p.elim
  | exc x fr1 st1 =>
    rw [e] at p
    simp only at p
    intro ρ' σ' cl d H' s r' ex
    cases ez : frzE st1 x with
    | none => rw [ez] at p; exact p.elim
    | some x' =>
      rw [ez] at p
      refine p ρ cl d H' (st0 s).1 (st0 s).2 ?_
      obtain ⟨C, e1, e2, e3⟩ := ex
      unfold frzE at ez
      cases hf : x.fs with
      | none =>
        rw [hf] at ez e3
        simp only [Option.some.injEq] at ez
        subst ez
        refine ⟨C, e1, e2, ?_⟩
        rw [hf]
        cases d <;> exact e3
      | some fs =>
        rw [hf] at ez e3
        obtain ⟨gs, g1, g2⟩ := Option.map_eq_some_iff.mp ez
        subst g2
        cases d with
        | none => exact e3.elim
        | some a =>
          obtain ⟨ws, w1, w2⟩ := e3
          exact ⟨C, e1, e2, ws, w1, VRf.subs (hn s).1 (frzT_tells r' (hn s).1 (hn s).2 6) w2 g1⟩
  | ok f fr1 st1 =>
    rw [e] at p
    cases f with
    | next => exact fun ρ' σ' H' s r' => p ρ H' (st0 s).1 (st0 s).2 _ .non
    | brk => exact p.elim
    | cont => exact p.elim
    | ret v =>
      simp only at p
      cases ez : frz st1 v with
      | none => rw [ez] at p; exact p.elim
      | some v' =>
        rw [ez] at p
        exact fun ρ' σ' x H' s r' hx => p ρ H' (st0 s).1 (st0 s).2 _ (VR.subs (hn s).1 (frzT_tells r' (hn s).1 (hn s).2 6) hx ez)
end

/-! ### the call -/
def mCallF (n : Nat) (pf : List AV → M AV) (das : List AV) (ma : Fr → M (List AV)) : Fr → M AV := fun fr st => (ma fr st).bind fun avs st1 => if (avs ++ das).length = n then pf (avs ++ das) st1 else .stuck
section
variable {c : MC} {W : WX} {σ : L2.St} {H : Hp} {Q : VK} {n : Nat} {pf : List AV → M AV} {das : List AV} {dvs : List V}
theorem spM_of {vs : List V} (hd : ∀ ρ H, VRs c ρ H das dvs) (h : tG c W vs (fun avs _ st => if (avs ++ das).length = n then pf (avs ++ das) st else .stuck) (PV c Q) σ H) : spM c n pf (vs ++ dvs) H Q (WE W σ) := by
  obtain ⟨ρ, fr, st, avs, r, q, p⟩ := h
  have q' := q.app (hd ρ H)
  by_cases hl : (avs ++ das).length = n
  case neg => simp only [if_neg hl] at p; exact p.elim
  simp only [if_pos hl] at p
  refine ⟨by rw [← q'.len]; exact hl, ρ, [], st, _, r.reframe rfl fun i v e => by simp at e, q', ?_⟩
  show Pst c _ ρ [] [] H _ (pf (avs ++ das) st)
  cases e : pf (avs ++ das) st with
  | stuck => rw [e] at p; exact p.elim
  | exc x st1 => rw [e] at p; exact fun ρ' cl d H' s r' ex => p ρ' cl d H' s (r.back s r') ex
  | ok v st1 => rw [e] at p; exact fun ρ' H' s r' x hx => p ρ' H' s (r.back s r') x hx
theorem tCallM {ma : Fr → M (List AV)} (hd : ∀ ρ H, VRs c ρ H das dvs) (q : tM c W (mCallF n pf das ma) σ H Q) : tMa c W ma σ H fun vs H1 => spM c n pf (vs ++ dvs) H1 Q (WE W σ) := by
  have q1 := bindL (c := c) (W := W) (σ := σ) (H := H) (P := PV c Q) (vs := []) (m := ma) (k := fun avs fr st => if (avs ++ das).length = n then pf (avs ++ das) st else .stuck) (tG.nil q)
  exact tG.imp q1 fun avs ρ H1 h xs hx => spM_of hd (h xs hx)
end
section
variable {X : Cx} {G : String → Option Addr} {W : WX} {CX : CXT} {k n : Nat} {f : Addr} {fd : FuncData} {ps : List Str} {pf : List AV → M AV} {das : List AV} {dvs : List V} {ds : List Value} {x : Str} {p pos : Pos} {e : Expr} {es : List Expr} {ma : Fr → M (List AV)}
theorem me_call (F : FnOk X.prog X.w X.K X.mg X.base CX k f fd ps (spM (cx X G) n pf)) (hr : Room k X.A) (hg : Gl X x) (hm : X.mg x = some (.ref f)) (hk : PySem.W.keepIn X.K (.ref f) = true) (hb : Binds X.K fd ps ds) (hd : Vals dvs ds) (hda : ∀ ρ H, VRs (cx X G) ρ H das dvs) (hx : ∀ σ, PassesAt CX X σ (WE W σ))
    (ha : MA X G W (e :: es) ma) (hdb : (x == ("__debug__" : Str)) = false := by decide) (he : starEach (e :: es) X.env = (false, eval e X.env) :: starEach es X.env := by rfl) (hpl : (backTo pos (starEach es X.env)).any (·.1) = false := by rfl) :
    ME X G W (.Call (.Name x p) (e :: es) [] pos) (mCallF n pf das ma) := pe_imp (pe_callSD (E := fun σ => WE W σ) F hr hg hm hk hb hd hx ha hdb he hpl) fun σ H Q q => tCallM hda q
end
end MM
set_option Elab.async false
set_option linter.all false
set_option maxRecDepth 100000
set_option maxHeartbeats 4000000
/-! The mirror's objects: attributes, methods, making; dicts and lists of the store written. -/
namespace MM
open PySem PySem.Spec PyProof.Rows L2

/-! ### attributes -/
def lukF (f : String) : List (String × AV) → Option AV
  | [] => none
  | (k, v) :: r => if k = f then some v else lukF f r
def putA (f : String) (v : AV) : List (String × AV) → List (String × AV)
  | [] => [(f, v)]
  | (k, x) :: r => if k = f then (k, v) :: r else (k, x) :: putA f v r
section
variable {c : MC} {ρ : Rho} {H : Hp}
theorem lukF_ok {f : String} : ∀ {fs : List (String × AV)} {vs : List (Str × V)}, VRf c ρ H fs vs → (lukF f fs = none ∧ vs.lookup (Str.ofString f) = none) ∨ ∃ v x, lukF f fs = some v ∧ vs.lookup (Str.ofString f) = some x ∧ VR c ρ H v x
  | _, _, .nil => .inl ⟨rfl, rfl⟩
  | _, _, .cons (k := k) h r => by
    by_cases e : k = f
    · subst e
      exact .inr ⟨_, _, by simp [lukF], by simp [List.lookup], h⟩
    · have e' : (Str.ofString f == Str.ofString k) = false := by
        rw [beq_eq_false_iff_ne]
        exact fun z => e (ofString_inj z).symm
      rcases lukF_ok (f := f) r with ⟨h1, h2⟩ | ⟨v, x, h1, h2, h3⟩
      · exact .inl ⟨by simp [lukF, e, h1], by simp [List.lookup, e', h2]⟩
      · exact .inr ⟨v, x, by simp [lukF, e, h1], by simp [List.lookup, e', h2], h3⟩
theorem putA_ok {f : String} {v : AV} {x : V} (hv : VR c ρ H v x) : ∀ {fs : List (String × AV)} {vs : List (Str × V)}, VRf c ρ H fs vs → VRf c ρ H (putA f v fs) (putF (Str.ofString f) x vs)
  | _, _, .nil => .cons hv .nil
  | _, _, .cons (k := k) h r => by
    by_cases e : k = f
    · subst e
      simp only [putA, putF, if_true]
      exact .cons hv r
    · have e' : ¬ Str.ofString k = Str.ofString f := fun z => e (ofString_inj z)
      simp only [putA, putF, if_neg e, if_neg e']
      exact .cons h (putA_ok hv r)
theorem VRf.len : ∀ {fs : List (String × AV)} {vs : List (Str × V)}, VRf c ρ H fs vs → fs.length = vs.length
  | _, _, .nil => rfl
  | _, _, .cons _ r => by rw [List.length_cons, List.length_cons, VRf.len r]
end
/-- an instance's class and attributes -/
def deI (st : Sto) : AV → Option (String × List (String × AV))
  | .ins C fs => some (C, fs)
  | .ptr n => match st[n]? with
    | some (.ins C fs) => some (C, fs)
    | _ => none
  | _ => none
theorem deI_ok {c : MC} {ρ : Rho} {H : Hp} {fr : Fr} {st : Sto} {σ : L2.St} (r : Rep c ρ fr st σ H) {v : AV} {x : V} {C : String} {fs : List (String × AV)} (h : VR c ρ H v x) (e : deI st v = some (C, fs)) : ∃ a A dx vs, x = .ref a ∧ c.G C = some A ∧ H a = some (.ins A dx vs) ∧ VRf c ρ H fs vs := by
  cases h with
  | ins g h n q => simp only [deI, Option.some.injEq, Prod.mk.injEq] at e; obtain ⟨e1, e2⟩ := e; subst e1 e2; exact ⟨_, _, _, _, rfl, g, h, q⟩
  | @ptr n a hp =>
    simp only [deI] at e
    split at e
    · rename_i C' fs' hx
      cases e
      obtain ⟨b, u, e1, e2, e3⟩ := r.ob n _ hx
      rw [hp] at e1
      cases e1
      cases e3 with
      | ins g q => exact ⟨_, _, _, _, rfl, g, e2, q⟩
    · cases e
  | _ => simp [deI] at e
def fldM (C f : String) : AV → M AV := fun v st => match deI st v with
  | some (C', fs) => if C' = C then (match lukF f fs with
    | some x => .ok x st
    | none => .stuck) else .stuck
  | none => .stuck

section
variable {X : Cx} {G : String → Option Addr} {W : WX} {tg iter e a b o : Expr} {es : List Expr} {pos pos' p apos : Pos} {ma mb mo : Fr → M AV} {CX : CXT} {k n : Nat} {f : Addr} {fd : FuncData} {ps : List Str} {pf : List AV → M AV} {das : List AV} {dvs : List V} {ds : List Value} {x : Str} {mes : Fr → M (List AV)} {C : String} {A : Addr}
theorem me_fld {F : String} {fn : Str} (ha : ME X G W e ma) (hC : G C = some A) (hc : Cls X.K A) (hn : NoAttr X.K A fn) (hfn : fn = Str.ofString F) (hb : attributeBase e fn X.env (eval e X.env) = eval e X.env := by rfl) : ME X G W (.Attribute e fn pos) (m1 (fldM C F) ma) := by
  subst hfn
  exact pe_imp (pe_fld ha hb) fun σ H Q q => t1 (r := fun x H1 Q => ∃ a C dx fs v, x = .ref a ∧ H1 a = some (.ins C dx fs) ∧ Cls X.K C ∧ NoAttr X.K C (Str.ofString F) ∧ fs.lookup (Str.ofString F) = some v ∧ Q v H1) (fun x σ H Q q => by
    obtain ⟨ρ, fr, st, v, r, hv, p⟩ := q.un1
    unfold fldM at p
    split at p
    · rename_i C' fs hd
      by_cases eC : C' = C
      case neg => rw [if_neg eC] at p; exact p.elim
      rw [if_pos eC] at p
      subst eC
      split at p
      · rename_i z hz
        obtain ⟨a, A', dx, vs, rfl, g, hh, q⟩ := deI_ok r hv hd
        have eA : A' = A := Option.some.inj (g.symm.trans hC)
        subst eA
        rcases lukF_ok (f := F) q with ⟨h1, _⟩ | ⟨v', x', h1, h2, h3⟩
        · rw [hz] at h1; cases h1
        · rw [hz] at h1
          cases h1
          exact ⟨a, A', dx, vs, x', rfl, hh, hc, hn, h2, p ρ H (Stp.refl _ _) r _ h3⟩
      · exact p.elim
    · exact p.elim) q
/-- o.f = value -/
def sFldM (C f : String) (mo mv : Fr → M AV) : Fr → Sto → RS := fun fr st => RS.of fr (mv fr st) fun v st1 => RS.of fr (mo fr st1) fun o st2 => match o with
  | .ptr n => (match st2[n]? with
    | some (.ins C' fs) => if C' = C ∧ fs.length < 1000 then .ok .next fr (st2.set n (.ins C (putA f v fs))) else .stuck
    | _ => .stuck)
  | _ => .stuck
theorem ms_fld {F : String} {fn : Str} {value : Expr} (ho : ME X G W o mo) (hv : ME X G W value ma) (hC : G C = some A) (hc : Cls X.K A) (hn : NoAttr X.K A fn) (hfn : fn = Str.ofString F) (hs : swapsWith value (some (.Attribute o fn pos')) pos.line X.env = pure false := by rfl) :
    MS X G W (.Assign [.Attribute o fn pos'] value pos) (sFldM C F mo ma) := by
  subst hfn
  refine ps_imp (ps_fld ho hv hs) fun D σ H q => ?_
  refine tG.imp (liftV q) fun v ρ H1 z x hx => ?_
  obtain ⟨ρ, fr, st, v, r, hvx, p⟩ := z x hx
  have q2 : tG (cx X G) W [x] (fun avs fr st => match avs with
    | [v] => mo fr st
    | _ => .stuck) (fun o ρ' H' => ∀ y, VR (cx X G) ρ' H' o y → ∃ fr st, Rep (cx X G) ρ' fr st σ H' ∧ PstS (cx X G) W ρ' H' D (match o with
      | .ptr n => (match st[n]? with
        | some (.ins C' fs) => if C' = C ∧ fs.length < 1000 then .ok .next fr (st.set n (.ins C (putA F v fs))) else .stuck
        | _ => .stuck)
      | _ => .stuck) ∧ VR (cx X G) ρ' H' v x) σ H1 := by
    refine ⟨ρ, fr, st, [v], r, .cons hvx .nil, ?_⟩
    show Pst (cx X G) W ρ fr σ H1 _ (mo fr st)
    cases eo : mo fr st with
    | stuck => simp only [eo, RS.of_stuck] at p; exact p.elim
    | exc e1 st1 => simp only [eo, RS.of_exc] at p; exact fun ρ' cl d H' s r' ex => p ρ' σ cl d H' s r' ex
    | ok o1 st1 =>
      simp only [eo, RS.of_ok] at p
      exact fun ρ' H' s r' y hy => ⟨fr, st1, r', p.mono s, hvx.mono s⟩
  obtain ⟨ρ2, fr2, st2, avs, r2, q3, p2⟩ := q2
  cases q3 with
  | cons h1 t =>
    cases t
    refine ⟨ρ2, fr2, st2, [], r2, .nil, ?_⟩
    show Pst (cx X G) W ρ2 fr2 σ H1 _ (mo fr2 st2)
    have p2 : Pst (cx X G) W ρ2 fr2 σ H1 _ (mo fr2 st2) := p2
    cases eo : mo fr2 st2 with
    | stuck => rw [eo] at p2; exact p2.elim
    | exc e1 st1 => rw [eo] at p2; exact p2
    | ok o1 st1 =>
      rw [eo] at p2
      intro ρ' H' s r' y hy
      obtain ⟨fr3, st3, r3, p3, hv3⟩ := p2 ρ' H' s r' y hy
      cases hy with
      | @ptr m a hp =>
        simp only at p3
        cases eg : st3[m]? with
        | none => rw [eg] at p3; exact p3.elim
        | some ob =>
          rw [eg] at p3
          cases ob with
          | ins C' fs =>
            simp only at p3
            by_cases hcnd : C' = C ∧ fs.length < 1000
            case neg => rw [if_neg hcnd] at p3; exact p3.elim
            rw [if_pos hcnd] at p3
            obtain ⟨rfl, hl⟩ := hcnd
            obtain ⟨b, u, e1, e2, e3⟩ := r3.ob m _ eg
            rw [hp] at e1
            cases e1
            cases e3 with
            | ins g qf =>
              rename_i Ca dx vs
              have eA : Ca = A := Option.some.inj (g.symm.trans hC)
              subst eA
              refine ⟨a, Ca, dx, vs, rfl, e2, hc, hn, by rw [← qf.len]; exact hl, ?_⟩
              have s4 := r3.stpPut (u := .ins Ca dx (putF (Str.ofString F) x vs)) hp
              exact p3 ρ' σ _ s4 (r3.put hp (.ins g (putA_ok hv3 qf)))
          | _ => exact p3.elim
      | _ => exact p3.elim

/-! ### methods -/
/-- o.m(..): the receiver is an instance of C without an attribute m -/
def mMeth (C mt : String) (n : Nat) (pf : List AV → M AV) (das : List AV) (mo : Fr → M AV) (ma : Fr → M (List AV)) : Fr → M AV := fun fr st => (mo fr st).bind fun o st1 => match deI st1 o with
  | some (C', fs) => if C' = C ∧ lukF mt fs = none then (ma fr st1).bind fun avs st2 => if (o :: avs ++ das).length = n then pf (o :: avs ++ das) st2 else .stuck else .stuck
  | none => .stuck
def tMethS (C : Addr) (m : Str) (sp : Sp) (dvs : List V) (E : L2.St → XK) (ta : TE) (t : TA) : TE := fun σ H Q => ta σ H fun x H1 => ∃ a dx fs, x = .ref a ∧ H1 a = some (.ins C dx fs) ∧ fs.lookup m = none ∧
  t σ H1 fun vs H2 => sp (x :: (vs ++ dvs)) H2 Q (E σ)
theorem pe_methS {sp : Sp} {E : L2.St → XK} {m : Str} {ta : TE} {t : TA} {pl : Sem Bool} (he : PE X o ta) (c : Cls X.K A) (hm : Meth X.K A m f) (F : FnOk X.prog X.w X.K X.mg X.base CX k f fd ps sp) (hr : Room k X.A) (hb : Binds X.K fd ps ds) (hd : Vals dvs ds) (hx : ∀ σ, PassesAt CX X σ (E σ)) (ha : PA X (e :: es) t)
    (hst : starEach (e :: es) X.env = (false, eval e X.env) :: starEach es X.env := by rfl) (hpl : (backTo pos (starEach es X.env)).any (·.1) = false := by rfl)
    (ht : eval (.Call (.Attribute o m apos) (e :: es) [] pos) X.env = (do
      let ov ← eval o X.env
      standAt apos.atName
      let (f, first) ← holding [ov] (getMethod ov m pl)
      callWith pos f first (backTo pos (starEach (e :: es) X.env)) (backToKw pos (keywordEach [] X.env))) := by rfl) :
    PE X (.Call (.Attribute o m apos) (e :: es) [] pos) (tMethS A m sp dvs E ta t) := ⟨fun pins s σ H Q I h => by
  refine PySem.W.methodCall_KW (pl := pl) (thn (he.run pins s σ H _ I h) fun u s1 hq => ?_) ht
  obtain ⟨x, H1, I1, rx, a, dx, fs, ex, ea, l, q⟩ := hq
  subst ex
  obtain rfl : u = Value.ref a := rx
  refine getmeth_ok I1 ea c hm l (PySem.W.callWith_K (first := [.ref a]) (h₀ := X.base) I1.ok.mod.kin hm.kp ?_ hst hpl)
  refine thn (ha.run pos pins s1 σ H1 _ I1 q) fun us s2 hv => ?_
  obtain ⟨vs, H2, I2, r, q2⟩ := hv
  exact ⟨I2.kIn, run_fnSD (us := .ref a :: us) (vs := .ref a :: vs) F hr hb hd (hx σ) I2 (.cons rfl r) q2⟩⟩
theorem pe_methS0 {sp : Sp} {E : L2.St → XK} {m : Str} {ta : TE} {pl : Sem Bool} (he : PE X o ta) (c : Cls X.K A) (hm : Meth X.K A m f) (F : FnOk X.prog X.w X.K X.mg X.base CX k f fd ps sp) (hr : Room k X.A) (hb : Binds X.K fd ps ds) (hd : Vals dvs ds) (hx : ∀ σ, PassesAt CX X σ (E σ))
    (ht : eval (.Call (.Attribute o m apos) [] [] pos) X.env = (do
      let ov ← eval o X.env
      standAt apos.atName
      let (f, first) ← holding [ov] (getMethod ov m pl)
      callWith pos f first (backTo pos (starEach [] X.env)) (backToKw pos (keywordEach [] X.env))) := by rfl) :
    PE X (.Call (.Attribute o m apos) [] [] pos) (tMethS A m sp dvs E ta tNil) := ⟨fun pins s σ H Q I h => by
  refine PySem.W.methodCall_KW (pl := pl) (thn (he.run pins s σ H _ I h) fun u s1 hq => ?_) ht
  obtain ⟨x, H1, I1, rx, a, dx, fs, ex, ea, l, q⟩ := hq
  subst ex
  obtain rfl : u = Value.ref a := rx
  exact getmeth_ok I1 ea c hm l (PySem.W.callWith_K0 (first := [.ref a]) I1.kIn hm.kp (run_fnSD (us := [.ref a]) (vs := [.ref a]) F hr hb hd (hx σ) I1 (.cons rfl .nil) q))⟩
theorem tMethM {mt : String} (hC : G C = some A) (hda : ∀ ρ H, VRs (cx X G) ρ H das dvs) {σ : L2.St} {H : Hp} {Q : VK} (q : tM (cx X G) W (mMeth C mt n pf das mo mes) σ H Q) :
    tMethS A (Str.ofString mt) (spM (cx X G) n pf) dvs (fun σ => WE W σ) (tM (cx X G) W mo) (tMa (cx X G) W mes) σ H Q := by
  have q1 := bindV (c := cx X G) (W := W) (σ := σ) (H := H) (P := PV (cx X G) Q) (vs := []) (m := mo) (k := fun avs fr st1 => match avs with
    | [o] => (match deI st1 o with
      | some (C', fs) => if C' = C ∧ lukF mt fs = none then (mes fr st1).bind fun avs st2 => if (o :: avs ++ das).length = n then pf (o :: avs ++ das) st2 else .stuck else .stuck
      | none => .stuck)
    | _ => .stuck) (tG.nil q)
  refine tG.imp q1 fun v ρ H1 h x hx => ?_
  obtain ⟨ρ2, fr2, st2, avs, r2, q2, p2⟩ := h x hx
  cases q2 with
  | cons hv t =>
    cases t
    rename_i o1
    simp only at p2
    cases ed : deI st2 o1 with
    | none => rw [ed] at p2; exact p2.elim
    | some cf =>
      obtain ⟨C', fs⟩ := cf
      rw [ed] at p2
      simp only at p2
      by_cases hcnd : C' = C ∧ lukF mt fs = none
      case neg => rw [if_neg hcnd] at p2; exact p2.elim
      rw [if_pos hcnd] at p2
      obtain ⟨rfl, hl⟩ := hcnd
      obtain ⟨a, A', dx, vs, rfl, g, hh, qf⟩ := deI_ok r2 hv ed
      have eA : A' = A := Option.some.inj (g.symm.trans hC)
      subst eA
      refine ⟨a, dx, vs, rfl, hh, ?_, ?_⟩
      · rcases lukF_ok (f := mt) qf with ⟨_, h2⟩ | ⟨v', x', h1, _⟩
        · exact h2
        · rw [hl] at h1; cases h1
      · have q3 := bindL (c := cx X G) (W := W) (σ := σ) (H := H1) (P := PV (cx X G) Q) (vs := [.ref a]) (m := mes) (k := fun avs fr st2 => if (avs ++ das).length = n then pf (avs ++ das) st2 else .stuck) ⟨ρ2, fr2, st2, [o1], r2, .cons hv .nil, p2⟩
        exact tG.imp q3 fun avs ρ3 H3 h3 xs hx3 => spM_of hda (h3 xs hx3)
theorem me_meth {mt : String} {m : Str} {pl : Sem Bool} (he : ME X G W o mo) (hC : G C = some A) (c : Cls X.K A) (hm : Meth X.K A m f) (F : FnOk X.prog X.w X.K X.mg X.base CX k f fd ps (spM (cx X G) n pf)) (hr : Room k X.A) (hb : Binds X.K fd ps ds) (hd : Vals dvs ds) (hda : ∀ ρ H, VRs (cx X G) ρ H das dvs) (hx : ∀ σ, PassesAt CX X σ (WE W σ)) (hmt : m = Str.ofString mt) (ha : MA X G W (e :: es) mes)
    (hst : starEach (e :: es) X.env = (false, eval e X.env) :: starEach es X.env := by rfl) (hpl : (backTo pos (starEach es X.env)).any (·.1) = false := by rfl)
    (ht : eval (.Call (.Attribute o m apos) (e :: es) [] pos) X.env = (do
      let ov ← eval o X.env
      standAt apos.atName
      let (f, first) ← holding [ov] (getMethod ov m pl)
      callWith pos f first (backTo pos (starEach (e :: es) X.env)) (backToKw pos (keywordEach [] X.env))) := by rfl) :
    ME X G W (.Call (.Attribute o m apos) (e :: es) [] pos) (mMeth C mt n pf das mo mes) := by
  subst hmt
  exact pe_imp (pe_methS (E := fun σ => WE W σ) he c hm F hr hb hd hx ha hst hpl ht) fun σ H Q q => tMethM hC hda q
theorem me_meth0 {mt : String} {m : Str} {pl : Sem Bool} (he : ME X G W o mo) (hC : G C = some A) (c : Cls X.K A) (hm : Meth X.K A m f) (F : FnOk X.prog X.w X.K X.mg X.base CX k f fd ps (spM (cx X G) n pf)) (hr : Room k X.A) (hb : Binds X.K fd ps ds) (hd : Vals dvs ds) (hda : ∀ ρ H, VRs (cx X G) ρ H das dvs) (hx : ∀ σ, PassesAt CX X σ (WE W σ)) (hmt : m = Str.ofString mt)
    (ht : eval (.Call (.Attribute o m apos) [] [] pos) X.env = (do
      let ov ← eval o X.env
      standAt apos.atName
      let (f, first) ← holding [ov] (getMethod ov m pl)
      callWith pos f first (backTo pos (starEach [] X.env)) (backToKw pos (keywordEach [] X.env))) := by rfl) :
    ME X G W (.Call (.Attribute o m apos) [] [] pos) (mMeth C mt n pf das mo mNil) := by
  subst hmt
  refine pe_imp (pe_methS0 (E := fun σ => WE W σ) he c hm F hr hb hd hx ht) fun σ H Q q => ?_
  have q' := tMethM (mes := mNil) hC hda q
  refine tG.imp q' fun v ρ H1 h x hx => ?_
  obtain ⟨a, dx, fs, e1, e2, e3, e4⟩ := h x hx
  obtain ⟨ρ2, fr2, st2, avs, r2, q2, p2⟩ := e4
  exact ⟨a, dx, fs, e1, e2, e3, p2 ρ2 H1 (Stp.refl _ _) r2 [] .nil⟩
end
end MM
set_option Elab.async false
set_option linter.all false
set_option maxRecDepth 100000
set_option maxHeartbeats 4000000
/-! The mirror's making of instances; targets of any form; items stored; list.append. -/
namespace MM
open PySem PySem.Spec PyProof.Rows L2

section
variable {c : MC} {ρ ρ' : Rho} {H H' : Hp} {fr : Fr} {st : Sto} {σ : L2.St}
theorem lowRep (r : Rep c ρ fr st σ H) : Rep c ⟨[], ρ.m ++ ρ.h⟩ [] [] [] H := ⟨rfl, rfl, fun i v e => by simp at e, fun i j a e => by simp at e, fun i o e => by simp at e, fun a ha => by
    rcases List.mem_append.mp ha with ha | ha
    · obtain ⟨_, _, u, _, _, e, _⟩ := r.at ha
      rw [e]; simp
    · exact r.hd a ha⟩
theorem lowStp (r : Rep c ρ fr st σ H) (s : Stp ⟨[], ρ.m ++ ρ.h⟩ H ρ' H') : Stp ρ H ρ H' ∧ Rep c ρ fr st σ H' := by
  have s0 : Stp ρ H ρ H' := ⟨⟨[], by simp, fun _ z => by simp at z⟩, fun _ z => z, fun _ z => .inl z, fun a u _ e => s.keep a u (by simp) e, s.tups, s.live⟩
  refine ⟨s0, r.grow s0 fun a ha => ?_⟩
  obtain ⟨_, _, u, _, _, e, _⟩ := r.at ha
  rw [e]
  exact s.keep a u (by simp) e
theorem lowHas (r : Rep c ρ fr st σ H) (s : Stp ⟨[], ρ.m ++ ρ.h⟩ H ρ' H') : (∀ a, ρ.has a → ρ'.has a) ∧ ∀ a, ρ.has a → a ∉ ρ'.m :=
  ⟨fun a ha => .inr (s.sub a (by simpa [Rho.has] using ha)), fun a ha => s.outm (by simp) ((lowRep r).hd a (by simpa [Rho.has] using ha))⟩
theorem lowE (r : Rep c ρ fr st σ H) (s : Stp ⟨[], ρ.m ++ ρ.h⟩ H ρ' H') {fr1 : Fr} {st1 : Sto} {σ1 : L2.St} (r' : Rep c ρ' fr1 st1 σ1 H') {x x' : Exn} {cl : Value} {d : Option Addr} (ez : frzE st1 x = some x') (ex : ExR c ρ' x cl d H') : ExR c ρ x' cl d H' := by
  obtain ⟨C, e1, e2, e3⟩ := ex
  unfold frzE at ez
  cases hf : x.fs with
  | none =>
    rw [hf] at ez e3
    simp only [Option.some.injEq] at ez
    subst ez
    refine ⟨C, e1, e2, ?_⟩
    rw [hf]
    cases d <;> exact e3
  | some fs =>
    rw [hf] at ez e3
    obtain ⟨gs, g1, g2⟩ := Option.map_eq_some_iff.mp ez
    subst g2
    cases d with
    | none => exact e3.elim
    | some a =>
      obtain ⟨ws, w1, w2⟩ := e3
      exact ⟨C, e1, e2, ws, w1, VRf.subs (lowHas r s).1 (frzT_tells r' (lowHas r s).1 (lowHas r s).2 6) w2 g1⟩
end

/-! ### making -/
def tMakeS (C : Addr) (sp : Sp) (dvs : List V) (E : L2.St → XK) (t : TA) : TE := fun σ H Q => t σ H fun vs H1 => ∀ x dx, H1 x = none → H1 dx = none → dx ≠ x →
  sp (.ref x :: (vs ++ dvs)) (upd (upd H1 dx (.own x)) x (.ins C dx [])) (fun v H2 => v = .non ∧ Q (.ref x) H2) (E σ)
def mMake (C : String) (n : Nat) (pf : List AV → M AV) (das : List AV) (ma : Fr → M (List AV)) : Fr → M AV := fun fr st => (ma fr st).bind fun avs st1 => if (AV.ptr st1.length :: (avs ++ das)).length = n then
  (pf (.ptr st1.length :: (avs ++ das)) (st1 ++ [.ins C []])).bind fun v st2 => match v with
    | .non => .ok (.ptr st1.length) st2
    | _ => .stuck
  else .stuck
/-- made and kept as data -/
def mMakeZ (C : String) (n : Nat) (pf : List AV → M AV) (das : List AV) (ma : Fr → M (List AV)) : Fr → M AV := fun fr st => (ma fr st).bind fun avs st1 => if (AV.ptr 0 :: (avs ++ das)).length = n ∧ pfrees (avs ++ das) = true then
  (match pf (.ptr 0 :: (avs ++ das)) [.ins C []] with
    | .ok .non st2 => (match frz st2 (.ptr 0) with
      | some v => .ok v st1
      | none => .stuck)
    | .exc e st2 => (match frzE st2 e with
      | some e' => .exc e' st1
      | none => .stuck)
    | _ => .stuck)
  else .stuck
section
variable {X : Cx} {G : String → Option Addr} {W : WX} {tg t1 t2 iter e a b o i : Expr} {es : List Expr} {pos pos' p apos : Pos} {ma mb mo : Fr → M AV} {CX : CXT} {k n : Nat} {f : Addr} {fd : FuncData} {ps : List Str} {pf : List AV → M AV} {das : List AV} {dvs : List V} {ds : List Value} {x : Str} {mes : Fr → M (List AV)} {C : String} {A : Addr}
theorem run_makeS {sp : Sp} {E : XK} {pins : List (Addr × Obj)} {σ : L2.St} {H : Hp} {s : Shared} {Q : VK} {us : List Value} {vs : List V} (M : Mk X.K A f) (F : FnOk X.prog X.w X.K X.mg X.base CX k f fd ps sp) (hr : Room (k + 1) X.A) (hb : Binds X.K fd ps ds) (hd : Vals dvs ds)
    (hx : PassesAt CX X σ E) (I : Inv X pins σ H s) (r : Vals vs us)
    (h : ∀ x dx, H x = none → H dx = none → dx ≠ x → sp (.ref x :: (vs ++ dvs)) (upd (upd H dx (.own x)) x (.ins A dx [])) (fun v H2 => v = .non ∧ Q (.ref x) H2) E) :
    wpAny (model X.prog X.w) X.A (call (.ref A) us) (EP X pins σ Q) X.xe s := by
  have q := h (s.heap.objs.size + 1) s.heap.objs.size (I.hok.fresh (Nat.le_succ _)) (I.hok.fresh (Nat.le_refl _)) (Nat.ne_of_lt (Nat.lt_succ_self _))
  have I2 := Inv.made (C := A) I
  have rv : Vals (V.ref (s.heap.objs.size + 1) :: (vs ++ dvs)) (Value.ref (s.heap.objs.size + 1) :: (us ++ ds)) := .cons rfl (r.append hd)
  have hl : (Value.ref (s.heap.objs.size + 1) :: us ++ ds).length = ps.length := (F.len _ _ _ _ q) ▸ rv.length.symm
  have run := F.run _ X.stack _ _ ⟨Value.ref (s.heap.objs.size + 1) :: us, []⟩ (Value.ref (s.heap.objs.size + 1) :: (us ++ ds)) _ _ E (hr.make A us []) (I2.env0.make A us []) (hb _ (Value.ref (s.heap.objs.size + 1) :: us) I2.kIn hl) rv q
  refine wpAny_call (make_map (f := f) I.kIn M.makes M.init (beq_iff_eq.mp M.fn) (codeAny_mono run fun r s' hq => ?_))
  match r, hq with
  | .error e, hq => exact hx pins _ _ e s' I2 hq
  | .ok (.ret u), hq =>
    obtain ⟨v, H', I3, rv', ev, q3⟩ := I2.after hq
    subst ev
    exact ⟨rv', ⟨V.ref (s.heap.objs.size + 1), H', I3, rfl, q3⟩⟩
  | .ok .next, hq => exact False.elim hq
  | .ok .brk, hq => exact False.elim hq
  | .ok .cont, hq => exact False.elim hq
theorem pe_makeS {sp : Sp} {E : L2.St → XK} {t : TA} (M : Mk X.K A f) (F : FnOk X.prog X.w X.K X.mg X.base CX k f fd ps sp) (hr : Room (k + 1) X.A) (hg : Gl X x) (hm : X.mg x = some (.ref A)) (hb : Binds X.K fd ps ds) (hd : Vals dvs ds) (hx : ∀ σ, PassesAt CX X σ (E σ))
    (ha : PA X (e :: es) t) (hdb : (x == ("__debug__" : Str)) = false := by decide) (he : starEach (e :: es) X.env = (false, eval e X.env) :: starEach es X.env := by rfl) (hpl : (backTo pos (starEach es X.env)).any (·.1) = false := by rfl) :
    PE X (.Call (.Name x p) (e :: es) [] pos) (tMakeS A sp dvs E t) := ⟨fun pins s σ H Q I h => by
  refine wpAny_Call_Name_kw (ld_glob I hg hm (PySem.W.callWith_K (h₀ := X.base) I.ok.mod.kin M.kp (thn (ha.run pos pins s σ H _ I h) fun us s1 hv => ?_) he hpl) hdb)
  obtain ⟨vs, H1, I1, r, q⟩ := hv
  exact ⟨I1.kIn, run_makeS M F hr hb hd (hx σ) I1 r q⟩⟩
theorem tMakeM (hC : G C = some A) (hda : ∀ ρ H, VRs (cx X G) ρ H das dvs) {σ : L2.St} {H : Hp} {Q : VK} (q : tM (cx X G) W (mMake C n pf das mes) σ H Q) : tMakeS A (spM (cx X G) n pf) dvs (fun σ => WE W σ) (tMa (cx X G) W mes) σ H Q := by
  have q1 := bindL (c := cx X G) (W := W) (σ := σ) (H := H) (P := PV (cx X G) Q) (vs := []) (m := mes) (k := fun avs fr st1 => if (AV.ptr st1.length :: (avs ++ das)).length = n then
    (pf (.ptr st1.length :: (avs ++ das)) (st1 ++ [.ins C []])).bind fun v st2 => match v with
      | .non => .ok (.ptr st1.length) st2
      | _ => .stuck
    else .stuck) (tG.nil q)
  refine tG.imp q1 fun avs ρ0 H1 h xs hxs y dy hy hdy hne => ?_
  obtain ⟨ρ, fr, st, avs, r, q, p⟩ := h xs hxs
  simp only at p
  by_cases hl : (AV.ptr st.length :: (avs ++ das)).length = n
  case neg => rw [if_neg hl] at p; exact p.elim
  rw [if_pos hl] at p
  have s1 : Stp ρ H1 ρ (upd H1 dy (.own y)) := Stp.tmp hdy
  have r1 := r.tmp (o := .own y) hdy
  have hy1 : upd H1 dy (.own y) y = none := by rw [upd_ne (Ne.symm hne)]; exact hy
  have s2 := Stp.new (ρ := ρ) (o := HO.ins A dy []) hy1
  have r2 := r1.new (o := .ins C []) hy1 (OR.ins (dx := dy) hC .nil)
  have s12 := s1.trans s2
  have qd := (q.mono s12).app (hda (ρ.add y) (upd (upd H1 dy (.own y)) y (.ins A dy [])))
  have gy : (ρ.add y).m[st.length]? = some y := by rw [r.len]; simp [Rho.add]
  refine ⟨by rw [← hl, List.length_cons, List.length_cons, qd.len]; rfl, ρ.add y, [], _, _, r2.reframe rfl fun i v e => by simp at e, .cons (.ptr gy) qd, ?_⟩
  show Pst (cx X G) _ (ρ.add y) [] [] _ _ (pf (.ptr st.length :: (avs ++ das)) (st ++ [.ins C []]))
  cases ep : pf (.ptr st.length :: (avs ++ das)) (st ++ [.ins C []]) with
  | stuck => simp only [ep, R.bind_stuck] at p; exact p.elim
  | exc e st2 => simp only [ep, R.bind_exc] at p; exact fun ρ' cl d H' s r' ex => p ρ' cl d H' (s12.trans s) (r.back (s12.trans s) r') ex
  | ok v st2 =>
    simp only [ep, R.bind_ok] at p
    intro ρ' H' s r' z hz
    cases hz with
    | non => exact ⟨rfl, p ρ' H' (s12.trans s) (r.back (s12.trans s) r') _ (.ptr (get_stp s gy))⟩
    | _ => exact p.elim
theorem tMakeMZ (hC : G C = some A) (hda : ∀ ρ H, VRs (cx X G) ρ H das dvs) {σ : L2.St} {H : Hp} {Q : VK} (q : tM (cx X G) W (mMakeZ C n pf das mes) σ H Q) : tMakeS A (spM (cx X G) n pf) dvs (fun σ => WE W σ) (tMa (cx X G) W mes) σ H Q := by
  have q1 := bindL (c := cx X G) (W := W) (σ := σ) (H := H) (P := PV (cx X G) Q) (vs := []) (m := mes) (k := fun avs fr st1 => if (AV.ptr 0 :: (avs ++ das)).length = n ∧ pfrees (avs ++ das) = true then
    (match pf (.ptr 0 :: (avs ++ das)) [.ins C []] with
      | .ok .non st2 => (match frz st2 (.ptr 0) with
        | some v => .ok v st1
        | none => .stuck)
      | .exc e st2 => (match frzE st2 e with
        | some e' => .exc e' st1
        | none => .stuck)
      | _ => .stuck)
    else .stuck) (tG.nil q)
  refine tG.imp q1 fun avs ρ0 H1 h xs hxs y dy hy hdy hne => ?_
  obtain ⟨ρ, fr, st, avs, r, q, p⟩ := h xs hxs
  simp only at p
  by_cases hl : (AV.ptr 0 :: (avs ++ das)).length = n ∧ pfrees (avs ++ das) = true
  case neg => rw [if_neg hl] at p; exact p.elim
  rw [if_pos hl] at p
  obtain ⟨hl, hf⟩ := hl
  have rl := lowRep r
  have s1 : Stp ⟨[], ρ.m ++ ρ.h⟩ H1 ⟨[], ρ.m ++ ρ.h⟩ (upd H1 dy (.own y)) := Stp.tmp hdy
  have r1 := rl.tmp (o := .own y) hdy
  have hy1 : upd H1 dy (.own y) y = none := by rw [upd_ne (Ne.symm hne)]; exact hy
  have s2 := Stp.new (ρ := ⟨[], ρ.m ++ ρ.h⟩) (o := HO.ins A dy []) hy1
  have r2 := r1.new (o := .ins C []) hy1 (OR.ins (dx := dy) hC .nil)
  have s12 := s1.trans s2
  have qd := ((q.app (hda ρ H1)).low hf).mono s12
  have gy : (Rho.add ⟨[], ρ.m ++ ρ.h⟩ y).m[0]? = some y := rfl
  refine ⟨by rw [← hl, List.length_cons, List.length_cons, qd.len]; rfl, Rho.add ⟨[], ρ.m ++ ρ.h⟩ y, [], _, _, r2, .cons (.ptr gy) qd, ?_⟩
  show Pst (cx X G) _ _ [] [] _ _ (pf (.ptr 0 :: (avs ++ das)) [.ins C []])
  cases ep : pf (.ptr 0 :: (avs ++ das)) [.ins C []] with
  | stuck => rw [ep] at p; exact p.elim
  | exc e st2 =>
    rw [ep] at p
    simp only at p
    intro ρ' cl d H' s r' ex
    cases ez : frzE st2 e with
    | none => rw [ez] at p; exact p.elim
    | some e' =>
      rw [ez] at p
      have s13 := s12.trans s
      exact p ρ cl d H' (lowStp r s13).1 (lowStp r s13).2 (lowE r s13 r' ez ex)
  | ok v st2 =>
    rw [ep] at p
    intro ρ' H' s r' z hz
    cases hz with
    | non =>
      simp only at p
      cases ez : frz st2 (.ptr 0) with
      | none => rw [ez] at p; exact p.elim
      | some v' =>
        rw [ez] at p
        have s13 := s12.trans s
        have hh := lowHas r s13
        exact ⟨rfl, p ρ H' (lowStp r s13).1 (lowStp r s13).2 _ (VR.subs hh.1 (frzT_tells r' hh.1 hh.2 6) (.ptr (get_stp s gy)) ez)⟩
    | _ => exact p.elim
theorem me_make (M : Mk X.K A f) (F : FnOk X.prog X.w X.K X.mg X.base CX k f fd ps (spM (cx X G) n pf)) (hr : Room (k + 1) X.A) (hg : Gl X x) (hm : X.mg x = some (.ref A)) (hC : G C = some A) (hb : Binds X.K fd ps ds) (hd : Vals dvs ds) (hda : ∀ ρ H, VRs (cx X G) ρ H das dvs) (hx : ∀ σ, PassesAt CX X σ (WE W σ))
    (ha : MA X G W (e :: es) mes) (hdb : (x == ("__debug__" : Str)) = false := by decide) (he : starEach (e :: es) X.env = (false, eval e X.env) :: starEach es X.env := by rfl) (hpl : (backTo pos (starEach es X.env)).any (·.1) = false := by rfl) :
    ME X G W (.Call (.Name x p) (e :: es) [] pos) (mMake C n pf das mes) := pe_imp (pe_makeS (E := fun σ => WE W σ) M F hr hg hm hb hd hx ha hdb he hpl) fun σ H Q q => tMakeM hC hda q
theorem me_makeZ (M : Mk X.K A f) (F : FnOk X.prog X.w X.K X.mg X.base CX k f fd ps (spM (cx X G) n pf)) (hr : Room (k + 1) X.A) (hg : Gl X x) (hm : X.mg x = some (.ref A)) (hC : G C = some A) (hb : Binds X.K fd ps ds) (hd : Vals dvs ds) (hda : ∀ ρ H, VRs (cx X G) ρ H das dvs) (hx : ∀ σ, PassesAt CX X σ (WE W σ))
    (ha : MA X G W (e :: es) mes) (hdb : (x == ("__debug__" : Str)) = false := by decide) (he : starEach (e :: es) X.env = (false, eval e X.env) :: starEach es X.env := by rfl) (hpl : (backTo pos (starEach es X.env)).any (·.1) = false := by rfl) :
    ME X G W (.Call (.Name x p) (e :: es) [] pos) (mMakeZ C n pf das mes) := pe_imp (pe_makeS (E := fun σ => WE W σ) M F hr hg hm hb hd hx ha hdb he hpl) fun σ H Q q => tMakeMZ hC hda q

/-! ### targets of any form -/
/-- a target's mirror, ending by next -/
abbrev TgM := AV → Fr → Sto → Option (Fr × Sto)
def tMg (c : MC) (m : TgM) : TG := fun x σ H Q => ∃ ρ fr st v fr1 st1, Rep c ρ fr st σ H ∧ VR c ρ H v x ∧ m v fr st = some (fr1, st1) ∧ ∀ ρ' σ' H', Stp ρ H ρ' H' → Rep c ρ' fr1 st1 σ' H' → Q σ' H'
abbrev MG (X : Cx) (G : String → Option Addr) (tg : Expr) (m : TgM) : Prop := PG X tg (tMg (cx X G) m)
theorem pg_imp {g g' : TG} (h : PG X tg g) (i : ∀ v σ H Q, g' v σ H Q → g v σ H Q) : PG X tg g' := ⟨fun pins s σ H v u Q I r q => h.run pins s σ H v u Q I r (i v σ H Q q)⟩
def gSet (t : Tgt) : TgM := fun v fr st => (setTgt t v fr).map fun fr1 => (fr1, st)
theorem mg_set {tt : Tgt} (h : PG X tg (gTgt X.K tt)) : MG X G tg (gSet tt) := pg_imp h fun x σ H Q q => by
  obtain ⟨ρ, fr, st, v, fr1, st1, r, hv, e, q⟩ := q
  obtain ⟨fr2, e1, e2⟩ := Option.map_eq_some_iff.mp e
  cases e2
  exact gTgt_ok (vs := tt.ix) r hv e1 (fun _ h => h) fun σ' r' _ => q ρ σ' H (Stp.refl _ _) r'
/-- put by key -/
def putD {κ : Type} [DecidableEq κ] (kvs : List (κ × AV)) (k : κ) (v : AV) : List (κ × AV) := if (kvs.any fun kv => decide (kv.1 = k)) = true then kvs.map (fun kv => if kv.1 = k then (kv.1, v) else kv) else kvs ++ [(k, v)]
/-- o[i] = v in the store -/
def setItM (o i v : AV) (st : Sto) : Option Sto := match o with
  | .ptr n => (match st[n]? with
    | some (.lst xs) => (match i with
      | .int j => (match ixN xs.length j with
        | some k => some (st.set n (.lst (xs.set k v)))
        | none => none)
      | _ => none)
    | some (.dk kvs) => (match keyK i with
      | some k => if kvs.length < 16000000 then some (st.set n (.dk (putD kvs k v))) else none
      | none => none)
    | some (.dt kvs) => (match keyT i with
      | some k => if kvs.length < 16000000 then some (st.set n (.dt (putD kvs k v))) else none
      | none => none)
    | _ => none)
  | _ => none
end
section
variable {c : MC} {ρ : Rho} {H : Hp}
theorem VRk.anyK {k : Key} : ∀ {kvs : List (Key × AV)} {kws : List (Key × V)}, VRk c ρ H kvs kws → (kvs.any fun kv => decide (kv.1 = k)) = kws.any fun kv => decide (kv.1 = k)
  | _, _, .nil => rfl
  | _, _, .cons _ r => by simp only [List.any_cons, VRk.anyK r]
theorem VRk.snoc {k : Key} {v : AV} {x : V} (hv : VR c ρ H v x) : ∀ {kvs : List (Key × AV)} {kws : List (Key × V)}, VRk c ρ H kvs kws → VRk c ρ H (kvs ++ [(k, v)]) (kws ++ [(k, x)])
  | _, _, .nil => .cons hv .nil
  | _, _, .cons h r => .cons h (VRk.snoc hv r)
theorem VRk.over {k : Key} {v : AV} {x : V} (hv : VR c ρ H v x) : ∀ {kvs : List (Key × AV)} {kws : List (Key × V)}, VRk c ρ H kvs kws → VRk c ρ H (kvs.map fun kv => if kv.1 = k then (kv.1, v) else kv) (kws.map fun kv => if kv.1 = k then (kv.1, x) else kv)
  | _, _, .nil => .nil
  | _, _, .cons (k := k') h r => by
    simp only [List.map_cons]
    by_cases e : k' = k
    · rw [if_pos e, if_pos e]; exact .cons hv (VRk.over hv r)
    · rw [if_neg e, if_neg e]; exact .cons h (VRk.over hv r)
theorem VRk.put {k : Key} {v : AV} {x : V} (hv : VR c ρ H v x) {kvs : List (Key × AV)} {kws : List (Key × V)} (h : VRk c ρ H kvs kws) : VRk c ρ H (putD kvs k v) (putK kws k x) := by
  unfold putD putK
  rw [← h.anyK]
  split
  · exact h.over hv
  · exact h.snoc hv
theorem VRk.len : ∀ {kvs : List (Key × AV)} {kws : List (Key × V)}, VRk c ρ H kvs kws → kvs.length = kws.length
  | _, _, .nil => rfl
  | _, _, .cons _ r => by rw [List.length_cons, List.length_cons, VRk.len r]
theorem VRt.anyK {k : List Key} : ∀ {kvs : List (List Key × AV)} {kws : List (List Key × V)}, VRt c ρ H kvs kws → (kvs.any fun kv => decide (kv.1 = k)) = kws.any fun kv => decide (kv.1 = k)
  | _, _, .nil => rfl
  | _, _, .cons _ r => by simp only [List.any_cons, VRt.anyK r]
theorem VRt.snoc {k : List Key} {v : AV} {x : V} (hv : VR c ρ H v x) : ∀ {kvs : List (List Key × AV)} {kws : List (List Key × V)}, VRt c ρ H kvs kws → VRt c ρ H (kvs ++ [(k, v)]) (kws ++ [(k, x)])
  | _, _, .nil => .cons hv .nil
  | _, _, .cons h r => .cons h (VRt.snoc hv r)
theorem VRt.over {k : List Key} {v : AV} {x : V} (hv : VR c ρ H v x) : ∀ {kvs : List (List Key × AV)} {kws : List (List Key × V)}, VRt c ρ H kvs kws → VRt c ρ H (kvs.map fun kv => if kv.1 = k then (kv.1, v) else kv) (kws.map fun kv => if kv.1 = k then (kv.1, x) else kv)
  | _, _, .nil => .nil
  | _, _, .cons (k := k') h r => by
    simp only [List.map_cons]
    by_cases e : k' = k
    · rw [if_pos e, if_pos e]; exact .cons hv (VRt.over hv r)
    · rw [if_neg e, if_neg e]; exact .cons h (VRt.over hv r)
theorem VRt.put {k : List Key} {v : AV} {x : V} (hv : VR c ρ H v x) {kvs : List (List Key × AV)} {kws : List (List Key × V)} (h : VRt c ρ H kvs kws) : VRt c ρ H (putD kvs k v) (putK kws k x) := by
  unfold putD putK
  rw [← h.anyK]
  split
  · exact h.over hv
  · exact h.snoc hv
theorem VRt.len : ∀ {kvs : List (List Key × AV)} {kws : List (List Key × V)}, VRt c ρ H kvs kws → kvs.length = kws.length
  | _, _, .nil => rfl
  | _, _, .cons _ r => by rw [List.length_cons, List.length_cons, VRt.len r]
theorem VRs.setA {v : AV} {x : V} (hv : VR c ρ H v x) : ∀ {xs : List AV} {vs : List V} (j : Nat), VRs c ρ H xs vs → VRs c ρ H (xs.set j v) (vs.set j x)
  | _, _, _, .nil => .nil
  | _, _, 0, .cons _ r => .cons hv r
  | _, _, j + 1, .cons h r => .cons h (VRs.setA hv j r)
end
section
variable {X : Cx} {G : String → Option Addr} {W : WX} {tg t1 t2 iter e a b o i : Expr} {es : List Expr} {pos pos' p apos : Pos} {ma mb mo mi : Fr → M AV}
def rSetM : TSet := fun o i v H Q => rSetL o i v H Q ∨ rSetD o i v H Q
theorem set_M (hu : X.A.units + 1 < cLine) : PSet X rSetM := fun pins s σ H o i v ov iv u Q I ro ri rv h => by
  rcases h with h | h
  · exact set_list pins s σ H o i v ov iv u Q I ro ri rv h
  · exact set_dict hu pins s σ H o i v ov iv u Q I ro ri rv h
theorem setItM_ok {c : MC} {ρ : Rho} {H : Hp} {fr : Fr} {st st' : Sto} {σ : L2.St} (r : Rep c ρ fr st σ H) {o i v : AV} {x y z : V} (ho : VR c ρ H o x) (hi : VR c ρ H i y) (hv : VR c ρ H v z) (e : setItM o i v st = some st') {Q : Hp → Prop}
    (q : ∀ H', Stp ρ H ρ H' → Rep c ρ fr st' σ H' → Q H') : rSetM x y z H Q := by
  unfold setItM at e
  cases ho with
  | @ptr n a hp =>
    simp only at e
    cases eg : st[n]? with
    | none => rw [eg] at e; cases e
    | some ob =>
      obtain ⟨b, u, e1, e2, e3⟩ := r.ob n _ eg
      rw [hp] at e1
      cases e1
      rw [eg] at e
      have fin : ∀ {o' : Ob} {u' : HO}, OR c ρ H o' u' → Stp ρ H ρ (upd H a u') ∧ Rep c ρ fr (st.set n o') σ (upd H a u') := fun q' => ⟨r.stpPut hp, r.put hp q'⟩
      cases e3 with
      | lst ql =>
        rename_i xs vs
        simp only at e
        cases hi with
        | int j =>
          simp only at e
          cases ej : ixN xs.length j with
          | none => rw [ej] at e; cases e
          | some k =>
            rw [ej] at e
            cases e
            have := fin (.lst (ql.setA hv k))
            exact .inl ⟨a, vs, j, k, rfl, rfl, e2, by rw [← ql.len]; exact ej, q _ this.1 this.2⟩
        | _ => cases e
      | dk ql =>
        rename_i xs vs
        simp only at e
        cases ek : keyK i with
        | none => rw [ek] at e; cases e
        | some k =>
          rw [ek] at e
          simp only at e
          by_cases hl : xs.length < 16000000
          case neg => rw [if_neg hl] at e; cases e
          rw [if_pos hl] at e
          cases e
          have ey := keyK_ok hi ek
          subst ey
          have := fin (.dk (ql.put (k := k) hv))
          exact .inr ⟨a, _, rfl, DPut.k e2 (by rw [← ql.len]; have : sizeLine = 16777216 := sizeLine_eq; omega), q _ this.1 this.2⟩
      | dt ql =>
        rename_i xs vs
        simp only at e
        cases ek : keyT i with
        | none => rw [ek] at e; cases e
        | some k =>
          rw [ek] at e
          simp only at e
          by_cases hl : xs.length < 16000000
          case neg => rw [if_neg hl] at e; cases e
          rw [if_pos hl] at e
          cases e
          obtain ⟨b, rfl, eb⟩ := keyT_ok hi ek
          have := fin (.dt (ql.put (k := k) hv))
          exact .inr ⟨a, _, rfl, DPut.t e2 eb (by rw [← ql.len]; have : sizeLine = 16777216 := sizeLine_eq; omega), q _ this.1 this.2⟩
      | ins g qf => cases e
  | _ => cases e
/-- o[i] = v -/
def gItem (mo mi : Fr → M AV) : TgM := fun v fr st => match mo fr st with
  | .ok o st1 => (match mi fr st1 with
    | .ok i st2 => (setItM o i v st2).map fun st3 => (fr, st3)
    | _ => none)
  | _ => none
theorem mg_item (hu : X.A.units + 1 < cLine) (ho : ME X G W o mo) (hi : ME X G W i mi)
    (ha : ∀ v, assign (.Subscript o i pos) X.env v = (do
      let ov ← holding [v] (eval o X.env)
      let iv ← holding [v, ov] (eval i X.env)
      standAt pos
      holding [v, ov, iv] (setItem ov iv v)
      release [v, ov, iv] []) := by intro _; rfl) : MG X G (.Subscript o i pos) (gItem mo mi) := pg_imp (pg_sub ho hi (set_M hu) ha) fun x σ H Q q => by
  obtain ⟨ρ, fr, st, v, fr1, st1, r, hv, e, q⟩ := q
  unfold gItem at e
  cases eo : mo fr st with
  | stuck => rw [eo] at e; cases e
  | exc _ _ => rw [eo] at e; cases e
  | ok o1 s1 =>
    rw [eo] at e
    simp only at e
    cases ei : mi fr s1 with
    | stuck => rw [ei] at e; cases e
    | exc _ _ => rw [ei] at e; cases e
    | ok i1 s2 =>
      rw [ei] at e
      obtain ⟨st3, e1, e2⟩ := Option.map_eq_some_iff.mp e
      cases e2
      refine ⟨ρ, fr, st, [], r, .nil, ?_⟩
      show Pst (cx X G) W ρ fr σ H _ (mo fr st)
      rw [eo]
      intro ρ1 H1 sa ra y hy
      refine ⟨ρ1, fr, s1, [], ra, .nil, ?_⟩
      show Pst (cx X G) W ρ1 fr σ H1 _ (mi fr s1)
      rw [ei]
      intro ρ2 H2 sb rb z hz
      exact setItM_ok rb (hy.mono sb) hz (hv.mono (sa.trans sb)) e1 fun H3 sc rc => q ρ2 σ H3 ((sa.trans sb).trans sc) rc
/-- target = value, any target -/
def sAsgG (g : TgM) (m : Fr → M AV) : Fr → Sto → RS := fun fr st => RS.of fr (m fr st) fun v st1 => match g v fr st1 with
  | some (fr1, st2) => .ok .next fr1 st2
  | none => .stuck
theorem ms_asgG {g : TgM} (he : ME X G W e ma) (hg : MG X G tg g) (hs : swapsWithSole [tg] e pos.line X.env = pure false := by rfl) (hw : swappedStores [tg] e X.env = pure none := by rfl)
    (h1 : (assignEach [tg] X.env).map (·.2) = [assign tg X.env] := by rfl) : MS X G W (.Assign [tg] e pos) (sAsgG g ma) := ps_imp (ps_asg he hg hs hw h1) fun D σ H q =>
  tG.imp (liftV q) fun v ρ H1 z x hx => by
    obtain ⟨ρ, fr, st, v, r, hx, p⟩ := z x hx
    cases ef : g v fr st with
    | none => simp only [ef] at p; exact p.elim
    | some fs =>
      obtain ⟨fr1, st1⟩ := fs
      simp only [ef] at p
      exact ⟨ρ, fr, st, v, fr1, st1, r, hx, ef, fun ρ' σ' H' s' r' => PstS.here r' (PstS.mono s' p)⟩
/-- t1 = t2 = value -/
def sAsg2 (g1 g2 : TgM) (m : Fr → M AV) : Fr → Sto → RS := fun fr st => RS.of fr (m fr st) fun v st1 => match g1 v fr st1 with
  | some (fr1, st2) => (match g2 v fr1 st2 with
    | some (fr3, st3) => .ok .next fr3 st3
    | none => .stuck)
  | none => .stuck
theorem ms_asg2 {g1 g2 : TgM} (he : ME X G W e ma) (h1 : MG X G t1 g1) (h2 : MG X G t2 g2) (ha : (assignEach [t1, t2] X.env).map (·.2) = [assign t1 X.env, assign t2 X.env] := by rfl) (hw : swappedStores [t1, t2] e X.env = pure none := by rfl) : MS X G W (.Assign [t1, t2] e pos) (sAsg2 g1 g2 ma) := ps_imp (ps_asg2 he h1 h2 ha hw) fun D σ H q =>
  tG.imp (liftV q) fun v ρ H1 z x hx => by
    obtain ⟨ρ, fr, st, v, r, hx, p⟩ := z x hx
    cases ef : g1 v fr st with
    | none => simp only [ef] at p; exact p.elim
    | some fs =>
      obtain ⟨fr1, st1⟩ := fs
      simp only [ef] at p
      cases eg : g2 v fr1 st1 with
      | none => simp only [eg] at p; exact p.elim
      | some gs =>
        obtain ⟨fr3, st3⟩ := gs
        simp only [eg] at p
        exact ⟨ρ, fr, st, v, fr1, st1, r, hx, ef, fun ρ' σ' H' s' r' => ⟨ρ', fr1, st1, v, fr3, st3, r', hx.mono s', eg, fun ρ2 σ2 H2 s2 r2 => PstS.here r2 (PstS.mono (s'.trans s2) p)⟩⟩
/-- xs.append(v) -/
def isLP (st : Sto) : AV → Bool
  | .ptr n => match st[n]? with
    | some (.lst _) => true
    | _ => false
  | _ => false
def appM : AV → AV → M AV := fun o v st => match o with
  | .ptr n => (match st[n]? with
    | some (.lst xs) => if xs.length < 16000000 then .ok .non (st.set n (.lst (xs ++ [v]))) else .stuck
    | _ => .stuck)
  | _ => .stuck
def mAppend (mo ma : Fr → M AV) : Fr → M AV := fun fr st => (mo fr st).bind fun o st1 => if isLP st1 o = true then (ma fr st1).bind fun v st2 => appM o v st2 else .stuck
theorem me_append (ho : ME X G W o mo) (he : ME X G W e ma) (hb : attributeBase o ("append" : Str) X.env (eval o X.env) = eval o X.env := by rfl)
    (hfew : ((backTo p (starEach (e :: []) X.env)).all (fun x => !x.1) && (backToKw p (keywordEach [] X.env)).all (fun x => x.1.isSome)
      && decide ((e :: []).length + ([] : List Keyword).length + (if ([] : List Keyword).isEmpty then 0 else 1) < 30)) = true := by rfl)
    (hline : (apos.endLine == p.line) = true := by rfl) (hs : starEach (e :: []) X.env = (false, eval e X.env) :: starEach [] X.env := by rfl) (hplain : (backTo p (starEach [] X.env)).any (·.1) = false := by rfl) :
    ME X G W (.Call (.Attribute o ("append" : Str) apos) [e] [] p) (mAppend mo ma) := pe_imp (pe_bm PySem.F.plainAttrs_list PySem.F.slot_list_append PySem.F.type_list_append mt_append ho (pa_cons he pa_nil hs) hb hfew hline hs hplain) fun σ H Q q => by
  have q1 := bindV (c := cx X G) (W := W) (σ := σ) (H := H) (P := PV (cx X G) Q) (vs := []) (m := mo) (k := fun avs fr st => match avs with
    | [o] => if isLP st o = true then (ma fr st).bind fun w st2 => ap2 appM ([o] ++ [w]) fr st2 else .stuck
    | _ => .stuck) (tG.nil q)
  refine tG.imp q1 fun v ρ H1 h x hx => ?_
  obtain ⟨ρ2, fr2, st2, avs, r2, q2, p2⟩ := h x hx
  cases q2 with
  | cons hv t =>
    cases t
    rename_i o1
    simp only at p2
    by_cases hL : isLP st2 o1 = true
    case neg => rw [if_neg hL] at p2; exact p2.elim
    rw [if_pos hL] at p2
    have ty : tyV X.K "list" x H1 := by
      cases hv with
      | @ptr n a hp =>
        simp only [isLP] at hL
        split at hL
        · rename_i xs hg
          obtain ⟨b, u, e1, e2, e3⟩ := r2.ob n _ hg
          rw [hp] at e1
          cases e1
          cases e3 with
          | lst ql => exact .inl ⟨rfl, _, .of e2⟩
        · cases hL
      | _ => simp [isLP] at hL
    have hh : tG (cx X G) W [x] (fun avs fr st => (ma fr st).bind fun w st2 => ap2 appM (avs ++ [w]) fr st2) (PV (cx X G) Q) σ H1 := ⟨ρ2, fr2, st2, [o1], r2, .cons hv .nil, p2⟩
    refine ⟨ty, tG.imp (bindV (m := ma) (k := ap2 appM) hh) fun w ρ2 H2 h2 y hy => ?_⟩
    have h3 := h2 y hy
    obtain ⟨ρ, fr, st, v, w, r, hv, hw, p⟩ := h3.un2
    show rAppend x [y] H2 Q
    unfold appM at p
    cases hv with
    | @ptr n a hp =>
      simp only at p
      cases eg : st[n]? with
      | none => rw [eg] at p; exact p.elim
      | some ob =>
        rw [eg] at p
        cases ob with
        | lst xs =>
          simp only at p
          by_cases hl : xs.length < 16000000
          case neg => rw [if_neg hl] at p; exact p.elim
          rw [if_pos hl] at p
          obtain ⟨b, u, e1, e2, e3⟩ := r.ob n _ eg
          rw [hp] at e1
          cases e1
          cases e3 with
          | lst ql =>
            rename_i vs
            exact ⟨a, vs, y, rfl, rfl, e2, by rw [← ql.len]; have : sizeLine = 16777216 := sizeLine_eq; omega, p ρ _ (r.stpPut hp) (r.put hp (.lst (ql.app (.cons hw .nil)))) _ .non⟩
        | _ => exact p.elim
    | _ => exact p.elim
end
end MM
set_option Elab.async false
set_option linter.all false
set_option maxRecDepth 100000
set_option maxHeartbeats 4000000
/-! Comprehensions of any collector: dicts by keys of either kind, sets of ints. -/
namespace MM
open PySem PySem.Spec PyProof.Rows L2

/-- the part of a turn behind the tests, by its wp: env, the collector, what is wanted, what of exceptions -/
abbrev TailW := Env → Value → (Shared → Prop) → (Value → Shared → Prop) → Shared → Prop
/-- what is known of such a comprehension -/
structure Coll (X : Cx) (mk tg iter : Expr) (ifs : List Expr) (new : Sem Value) (o0 : Obj) (u0 : Addr → HO) (tail : TailW) : Prop where
  new : ∀ {A : Around} {E : Value → Shared → Prop} {s : Shared} {Q : Value → Shared → Prop}, Q (.ref s.heap.objs.size) { s with heap := s.heap.push o0 } → wpAny (model X.prog X.w) A new Q E s
  laid : ∀ {H : Hp} (h : Heap), sysModules < h.objs.size → ObjOk X.prog X.w H (h.push o0) h.objs.size (u0 h.objs.size)
  live : ∀ v, o0.data ≠ .cell v
  loop : ∀ {R : Result → Shared → Prop} {s : Shared} {it acc : Value} {env : Env} (I : Nat → Shared → Prop)
    (turn : ∀ n s, I n s → wpAny (model X.prog X.w) X.A (pyNext it) (fun r s₁ => match r with
      | none => R (.ok .next) s₁
      | some v => wpAny (model X.prog X.w) X.A (letOwnedTupleGo tg it v) (fun _ s₁' => wpAny (model X.prog X.w) X.A (assign tg env v) (fun _ s₂ =>
          wpAny (model X.prog X.w) X.A (forIn ifs true fun c r => if r = true then do let ok ← isTrue c env (eval c env); pure (ForInStep.yield ok) else pure (ForInStep.yield r)) (fun ok s₃ =>
            if ok = true then tail env acc (fun s' => ∃ m, m < n ∧ I m s') (notedBy (model X.prog X.w) X.A env fun e s' => R (.error e) s') s₃
            else ∃ m, m < n ∧ I m s₃) (notedBy (model X.prog X.w) X.A env fun e s' => R (.error e) s') s₂) (notedBy (model X.prog X.w) X.A env fun e s' => R (.error e) s') s₁') (notedBy (model X.prog X.w) X.A env fun e s' => R (.error e) s') s₁) (notedBy (model X.prog X.w) X.A env fun e s' => R (.error e) s') s)
    (n : Nat) (h : I n s), (∃ D, acc = .ref D) → codeAny (model X.prog X.w) X.A (.compLoop mk 0 it acc env) R s
  start : ∀ {R : Result → Shared → Prop} {s : Shared} {it acc : Value} {env : Env}, codeAny (model X.prog X.w) X.A (.compLoop mk 0 it acc env) R s →
    wpAny (model X.prog X.w) X.A (pyIter it) (fun it' s' => codeAny (model X.prog X.w) X.A (.compLoop mk 0 it' acc env) R s') (notedBy (model X.prog X.w) X.A env fun e s' => R (.error e) s') s → codeAny (model X.prog X.w) X.A (.compStart mk 0 it acc env) R s
/-- reading: D the collector, tl the tail's -/
def tColl (u0 : Addr → HO) (wi : TI) (g : TG) (tt : TT) (tl : Addr → L2.St → Hp → (Hp → Prop) → Prop) (vs : List Nat) : TE := fun σ H Q => wi σ H fun J H1 => ∀ D, H1 D = none → ∃ W : Nat → Nat → Hp → Prop, (∃ m, W 0 m (upd H1 D (u0 D))) ∧ ∀ i m H, W i m H →
  (J.stop i H ∧ Q (.ref D) H) ∨ (J.go i H ∧ ∃ Nx : Hp → Prop, (∀ H', Nx H' → ∃ m', m' < m ∧ W (i + 1) m' H') ∧ ∀ x H', J.yld i H x H' → g x (L2.wipe σ vs) H' fun σ2 H2 => L2.wipe σ2 vs = L2.wipe σ vs ∧ tt σ2 H2 fun b H3 =>
    if b = true then tl D σ2 H3 Nx else Nx H3)
/-- the tail does what its reading says, in a block -/
def TailOk (X : Cx) (tail : TailW) (tl : Addr → L2.St → Hp → (Hp → Prop) → Prop) : Prop :=
  ∀ (pins : List (Addr × Obj)) (σ : L2.St) (H : Hp) (s : Shared) (D : Addr) (Nx : Hp → Prop) (post : Shared → Prop) (err : Value → Shared → Prop), Inv X pins σ H s → tl D σ H Nx → (∀ s' H', Inv X pins σ H' s' → Nx H' → post s') → tail X.env (.ref D) post err s
section
variable {X : Cx}
theorem coll_core {mk tg iter : Expr} {ifs : List Expr} {new : Sem Value} {o0 : Obj} {u0 : Addr → HO} {tail : TailW} (C : Coll X mk tg iter ifs new o0 u0 tail) {pins : List (Addr × Obj)} {s : Shared} {σ : L2.St} {H : Hp} {Q : VK} {scope : Scope} {own : List (PySem.Str × Nat)} {pos' : Pos} {wi : TI} {g : TG} {tt : TT} {tl : Addr → L2.St → Hp → (Hp → Prop) → Prop} {use : Option (Value → Sem Unit)} {Qf : Value → Shared → Prop}
    (hc : X.calm = true) (I : Inv X pins σ H s) (hN : X.N.Nodup) (hi : PI X tg iter wi) (ok : BlkOk X.N X.env.scope scope own)
    (hg : ∀ (s : Shared) (H : Hp) (C : Addr) (cl : List (PySem.Str × Addr)) (fp : List Addr), PG (X.blk s H scope (compEnvC scope cl C X.env) fp) tg g)
    (ht : ∀ (s : Shared) (H : Hp) (C : Addr) (cl : List (PySem.Str × Addr)) (fp : List Addr), PTs (X.blk s H scope (compEnvC scope cl C X.env) fp) ifs tt)
    (htl : ∀ (s : Shared) (H : Hp) (C : Addr) (cl : List (PySem.Str × Addr)) (fp : List Addr), TailOk (X.blk s H scope (compEnvC scope cl C X.env) fp) tail tl) (hs : ∀ x, foldedSetIterable iter X.env x = pure x)
    (h : tColl u0 wi g tt tl (own.map (·.2)) σ H Q)
    (fin : ∀ D C s' m H', Inv X pins σ H' s' → Q (.ref D) H' → s'.heap.Ns C m → FpOk X pins H' C → compPost (model X.prog X.w) X.A X.xe use Qf (.ref D) C (.ok .next) s') (hcl : clausesOf mk = [⟨tg, iter, ifs, 0⟩] := by rfl) :
    wpAny (model X.prog X.w) X.A (comprehension mk scope X.env pos' new false (eval iter X.env) use) Qf X.xe s := by
  have cellOf : ∀ y ∈ scope.names, y.2 = .free → ∃ c, X.env.cells.lookup y.1 = some c := fun y hy e => (ok.free y hy e).elim (fun k => I.ok.has _ (.inl k)) fun k => I.ok.has _ (.inr k)
  refine wpAny_comprehension_free (use := use) hcl hs (closure_ok cellOf) ok.kind (fun y hy e => (ok.uniq y hy).trans (congrArg some e)) ?_
  refine thn (hi.run pins s σ H _ I h) fun xv s1 hx => thn hx fun itv s2 h2 => ?_
  obtain ⟨it, fp, tn, J, Hi, e, Ii, T, ti, fi, q⟩ := h2
  subst e
  refine C.new (newEnv_comp ?_)
  -- the collector is there
  have freshD : Hi s2.heap.objs.size = none := Ii.hok.fresh (Nat.le_refl _)
  obtain ⟨W, ⟨m0, w0⟩, turn⟩ := q _ freshD
  have keepP : ∀ b o, s2.heap.get? b = some o → (s2.heap.push o0).get? b = some o := fun b o z => Heap.get?_push_of_some _ z
  have Ic : Inv X pins σ (upd Hi s2.heap.objs.size (u0 s2.heap.objs.size)) { s2 with heap := s2.heap.push o0 } := Ii.laid (t' := s2.toks) keepP (Nat.le_refl _) (C.laid s2.heap Ii.big)
  revert Ic w0 turn
  generalize hD : s2.heap.objs.size = D at freshD
  generalize hHc : upd Hi D (u0 D) = Hc
  intro turn w0 Ic
  generalize hsc : ({ s2 with heap := s2.heap.push o0 } : Shared) = sc at Ic
  have heapC : sc.heap = s2.heap.push o0 := by rw [← hsc]
  have low : ∀ b ∈ fp, b < s2.heap.objs.size := fun b hb => let ⟨o, z, _⟩ := T.obj _ _ ti b hb; Heap.lt_size z
  have fpC : ∀ b ∈ fp, FpOk X pins Hc b ∧ b < sc.heap.objs.size := fun b hb => by
    have l := low b hb
    refine ⟨⟨?_, (fi b hb).2⟩, by rw [heapC, Heap.size_push]; exact Nat.lt_succ_of_lt l⟩
    rw [← hHc, upd_ne (hD ▸ Nat.ne_of_lt l)]
    exact (fi b hb).1
  have tc : tn 0 sc.heap := T.keep _ _ _ ti fun b _ o z => heapC ▸ keepP b o z
  have Ib := block_start Ic ok hN fpC
  have pg := hg sc Hc sc.heap.objs.size (cellsFrom (sc.heap.objs.size + 1) scope.names (cloFrom X.env.cells scope.names [])) fp
  have pt := ht sc Hc sc.heap.objs.size (cellsFrom (sc.heap.objs.size + 1) scope.names (cloFrom X.env.cells scope.names [])) fp
  have ptl := htl sc Hc sc.heap.objs.size (cellsFrom (sc.heap.objs.size + 1) scope.names (cloFrom X.env.cells scope.names [])) fp
  have noFp : ∀ b ∈ fp, Hc b = none := fun b hb => (fpC b hb).1.1
  show codeAny _ _ (.compStart mk 0 (.ref it) (.ref D) (compEnvC scope (cellsFrom (sc.heap.objs.size + 1) scope.names (cloFrom X.env.cells scope.names [])) sc.heap.objs.size X.env)) (compPost (model X.prog X.w) X.A X.xe use Qf (.ref D) sc.heap.objs.size) { sc with heap := pushCells (sc.heap.push { cls := .type "dict", data := .dict #[] }) scope.names }
  generalize hce : compEnvC scope (cellsFrom (sc.heap.objs.size + 1) scope.names (cloFrom X.env.cells scope.names [])) sc.heap.objs.size X.env = ce at Ib pg pt ptl ⊢
  have locC : ce.locals = sc.heap.objs.size := by rw [← hce]; rfl
  generalize hsb : ({ sc with heap := pushCells (sc.heap.push { cls := .type "dict", data := .dict #[] }) scope.names } : Shared) = sb at Ib ⊢
  have tb : tn 0 sb.heap := T.keep _ _ _ tc fun b _ o z => by rw [← hsb]; exact pushCells_keeps _ _ _ _ (Heap.get?_push_of_some _ z)
  have fpB : ∀ {σ' : L2.St} {H' : Hp} {s' : Shared}, Inv (X.blk sc Hc scope ce fp) [] σ' H' s' → (∀ b ∈ fp, H' b = none) → ∀ b ∈ fp, FpOk (X.blk sc Hc scope ce fp) [] H' b := fun {σ' H' s'} I' n b hb =>
    ⟨n b hb, (I'.ok.exf b hb).1, I'.ok.exfs b hb, .inl hb, fun x c z => (I'.ok.exf b hb).2 x c z, fun p hp => absurd (show p ∈ ([] : List (Addr × Obj)) ++ [] from hp) (by simp)⟩
  have run : codeAny (model X.prog X.w) X.A (.compLoop mk 0 (.ref it) (.ref D) ce) (compPost (model X.prog X.w) X.A X.xe use Qf (.ref D) sc.heap.objs.size) sb := by
    refine C.loop (fun n s' => ∃ i H', Inv (X.blk sc Hc scope ce fp) [] (L2.wipe σ (own.map (·.2))) H' s' ∧ tn i s'.heap ∧ (∀ b ∈ fp, H' b = none) ∧ W i n H') ?_ m0 ⟨0, Hc, Ib, tb, noFp, w0⟩ ⟨D, rfl⟩
    rintro n s' ⟨i, H', I', t', n', w'⟩
    rcases turn i n H' w' with ⟨stop, qq⟩ | ⟨go, Nx, hNx, step⟩
    · refine thnF (T.done (X.blk sc Hc scope ce fp) rfl rfl rfl hc i [] s' _ H' (fun _ _ => False) I' (fpB I' n') t' stop) fun r s6 hr => ?_
      obtain ⟨rfl, I6⟩ := hr
      have Iend : Inv X pins σ H' s6 := Ic.call' (ch := fp) I6.os I6.base I6.hok I6.bare fun b hb => ⟨(fpC b hb).1.2.2.2.1, (fpC b hb).1.2.1, (fpC b hb).1.2.2.2.2.1, (fpC b hb).1.2.2.2.2.2⟩
      have nL : H' sc.heap.objs.size = none := locC ▸ (show H' ce.locals = none from I6.free)
      obtain ⟨m, hn, _⟩ := I6.loc
      have hn : s6.heap.Ns sc.heap.objs.size m := locC ▸ (show s6.heap.Ns ce.locals m from hn)
      exact fin D sc.heap.objs.size s6 m H' Iend qq hn (Ic.fpOk (Nat.le_refl _) nL)
    · refine thnF (T.item (X.blk sc Hc scope ce fp) rfl rfl rfl hc i [] s' _ H' (fun _ _ => False) I' (fpB I' n') t' go) fun r s6 hr => ?_
      obtain ⟨u, rfl, h6⟩ := hr
      refine thnF h6 fun _ s7 h7 => ?_
      obtain ⟨x, H7, I7, r7, y7, t7, n7⟩ := h7
      have Ip := I7.pinned (fpB I7 n7) (T.obj _ _ t7)
      refine thnF (pg.run _ s7 _ H7 x u _ Ip r7 (step x H7 y7)) fun _ s8 h8 => ?_
      obtain ⟨σ8, H8, I8, hw8, q8⟩ := h8
      refine thnF (pt.run _ s8 σ8 H8 _ I8 q8) fun b s9 h9 => ?_
      obtain ⟨H9, I9, q9⟩ := h9
      have close : ∀ {s' : Shared} {H' : Hp}, Inv (X.blk sc Hc scope ce fp) ([] ++ pinsAt fp s7.heap) σ8 H' s' → Nx H' → ∃ m, m < n ∧ ∃ i H', Inv (X.blk sc Hc scope ce fp) [] (L2.wipe σ (own.map (·.2))) H' s' ∧ tn i s'.heap ∧ (∀ b ∈ fp, H' b = none) ∧ W i m H' := fun {s' H'} I' nx => by
        obtain ⟨m', hm, w2⟩ := hNx H' nx
        have stays : ∀ b ∈ fp, ∀ o, s7.heap.get? b = some o → s'.heap.get? b = some o ∧ H' b = none := fun b hb o z =>
          let z := I'.pin (b, o) (List.mem_append_right _ (List.mem_append_right _ (mem_pinsAt hb z)))
          ⟨z.1, z.2.1⟩
        have hl : (L2.wipe σ (own.map (·.2))).length = σ8.length := by rw [← hw8, wipe_length]
        refine ⟨m', hm, i + 1, H', (I'.unpinned (pins := [])).weak hl (fun j v z => (L2.wipe_some (hw8 ▸ z)).1), T.keep _ _ _ t7 fun b hb o z => (stays b hb o z).1, fun b hb => ?_, w2⟩
        obtain ⟨o, z, _⟩ := T.obj _ _ t7 b hb
        exact (stays b hb o z).2
      cases b with
      | false =>
        simp only [Bool.false_eq_true, if_false] at q9 ⊢
        exact close I9 q9
      | true =>
        simp only [if_true] at q9 ⊢
        exact ptl _ σ8 H9 s9 D Nx _ _ I9 q9 fun s' H' I' nx => close I' nx
  exact C.start run (T.self X.A 0 _ _ _ tb run)
end

/-! ### dicts -/
/-- D[y] = v by a comprehension, keys of either kind -/
theorem dictSetP {X : Cx} {pins : List (Addr × Obj)} {σ : L2.St} {H H' : Hp} {s : Shared} {E : Value → Shared → Prop} {D : Addr} {y v : V} {u r : Value} {Q : Unit → Shared → Prop} (hu : X.A.units + 1 < cLine) (I : Inv X pins σ H s) (g : DPut H D y v H')
    (ry : RelV y u) (rv : RelV v r) (h : ∀ s', Inv X pins σ H' s' → Q () s') : wpAny (model X.prog X.w) X.A (dictSet D u r) Q E s := by
  rcases g with ⟨kvs, k, e, ey, l, eH⟩ | ⟨kvs, k, b, e, ey, eb, l, eH⟩
  · subst ey eH
    exact d_dictSet I e l ry rv h
  · subst ey eH
    cases (show u = Value.ref b from ry)
    obtain ⟨z, hd, xs, rel, dd⟩ := dt_of I.hok e
    have big : (putK kvs k v).length ≤ sizeLine := Nat.le_trans (length_putK kvs k v) l
    have small : xs.length ≤ sizeLine := Paired.length rel ▸ z
    refine wpAny_dictSet_heap (hsz := small) (show (tupleKind (mixKind X.prog X.w)).room X.A from by first | exact hu | exact Nat.lt_of_succ_lt hu | trivial | (show X.A.units < cLine; omega)) (key_of I.hok eb) dd fun h' dd' sb => h _ ?_
    obtain ⟨q, es, ep, hq, a2, a3, a4, _, a5⟩ := dd'
    have new : ObjOk X.prog X.w (upd H D (.dT (putK kvs k v))) h' D (.dT (putK kvs k v)) := ⟨big, hd, _, (rel.put k eb rv).keeps fun c ys ec => (upd_ne (ne_of ec e fun z => nomatch z)).trans ec, q, es, ep, hq, a2, a3, a4, a5⟩
    exact d_write I (by rw [e]; trivial) sb ⟨q, hq⟩ new
/-- {k: v for ..}: the tail -/
def tailD (X : Cx) (kx vx : Expr) : TailW := fun env acc post err s => ∀ D, acc = .ref D → wpAny (model X.prog X.w) X.A (eval kx env) (fun kv s₄ => wpAny (model X.prog X.w) X.A (eval vx env) (fun vv s₅ =>
  wpAny (model X.prog X.w) X.A (dictSet D kv vv) (fun _ s₆ => post s₆) err s₅) err s₄) err s
def tlD (tk tv : TE) : Addr → L2.St → Hp → (Hp → Prop) → Prop := fun D σ H Nx => tk σ H fun y H4 => tv σ H4 fun z H5 => ∃ H6, DPut H5 D y z H6 ∧ Nx H6
section
variable {X : Cx} {kx vx tg iter e : Expr} {ifs : List Expr} {scope : Scope} {pos : Pos}
abbrev u0K : Addr → HO := fun _ => .dK []
abbrev u0T : Addr → HO := fun _ => .dT []
theorem coll_dict {u0 : Addr → HO} (h0 : u0 = u0K ∨ u0 = u0T) : Coll X (.DictComp kx vx [⟨tg, iter, ifs, 0⟩] scope pos) tg iter ifs newDict { cls := .type "dict", data := .dict #[] } u0 (tailD X kx vx) where
  new := fun h => wpAny_newObj_type h
  laid := fun h hb => by
    rcases h0 with e | e
    · rw [e]; exact dk_empty h hb
    · rw [e]; exact dt_empty h hb
  live := fun v z => nomatch z
  loop := fun {R s it acc env} Iv turn n h hacc => by
    obtain ⟨D, rfl⟩ := hacc
    refine compLoop_anyD Iv (fun n s' hI => ?_) n h
    refine wpAny_mono (turn n s' hI) (fun r s1 h1 => ?_) fun _ _ z => z
    cases r with
    | none => exact h1
    | some v =>
      refine wpAny_mono h1 (fun _ s2 h2 => wpAny_mono h2 (fun _ s3 h3 => wpAny_mono h3 (fun b s4 h4 => ?_) fun _ _ z => z) fun _ _ z => z) fun _ _ z => z
      cases b with
      | false => exact h4
      | true =>
        simp only [if_true] at h4 ⊢
        exact h4 D rfl
  start := fun a b => codeAny_compStart_dict a b
/-! ### sets of ints -/
def tailI (X : Cx) (elt : Expr) : TailW := fun env acc post err s => ∀ D, acc = .ref D → wpAny (model X.prog X.w) X.A (eval elt env) (fun v s₄ => wpAny (model X.prog X.w) X.A (call (.builtin "set.add") [.ref D, v]) (fun _ s₅ => post s₅) err s₄) err s
def u0I (w : World) : Addr → HO := fun D => SetO w D (fun _ => false) 0
def tlI (w : World) (te : TE) : Addr → L2.St → Hp → (Hp → Prop) → Prop := fun D σ H Nx => te σ H fun y H4 => ∃ (k : Int) (S : Int → Bool) (n : Nat), y = .int k ∧ H4 D = some (SetO w D S n) ∧ n + 1 < scanBound ∧ Nx (upd H4 D (SetO w D (fun j => S j || decide (j = k)) (if S k = true then n else n + 1)))
theorem addI_ok {pins : List (Addr × Obj)} {σ : L2.St} {H : Hp} {s : Shared} {E : Value → Shared → Prop} {D : Addr} {S : Int → Bool} {n : Nat} {k : Int} {t : Tok} {Q : Value → Shared → Prop} (I : Inv X pins σ H s) (hD : H D = some (SetO X.w D S n)) (room : n + 1 < scanBound)
    (h : ∀ s', Inv X pins σ (upd H D (SetO X.w D (fun j => S j || decide (j = k)) (if S k = true then n else n + 1))) s' → Q .none s') : wpAny (model X.prog X.w) X.A (call (.builtin "set.add") [.ref D, .int k t]) Q E s :=
  setR_add (setO_get I hD) room fun h' sb new => h _ (I.write (e := D) (t' := s.toks + 1) (by rw [hD]; trivial) (.inl rfl) (fun b u hb hu => (sb.2 b hb).trans hu) (let ⟨o, _, _, _, ho, _⟩ := new; ⟨o, ho⟩) (setO_new new))
theorem coll_set {elt : Expr} : Coll X (.SetComp elt [⟨tg, iter, ifs, 0⟩] scope pos) tg iter ifs (newSet (.type "set")) { cls := .type "set", dict := none, data := .set #[] 0 (.fresh 0 0 (!X.w.params.followText "set-order")) } (u0I X.w) (tailI X elt) where
  new := fun h => PpSet.newSet_ok h
  laid := fun h hb => setO_new (setR_fresh X.w)
  live := fun v z => nomatch z
  loop := fun {R s it acc env} Iv turn n h hacc => by
    obtain ⟨D, rfl⟩ := hacc
    refine PpSet.compLoopS_any Iv (fun n s' hI => ?_) n h
    refine wpAny_mono (turn n s' hI) (fun r s1 h1 => ?_) fun _ _ z => z
    cases r with
    | none => exact h1
    | some v =>
      refine wpAny_mono h1 (fun _ s2 h2 => wpAny_mono h2 (fun _ s3 h3 => wpAny_mono h3 (fun b s4 h4 => ?_) fun _ _ z => z) fun _ _ z => z) fun _ _ z => z
      cases b with
      | false => exact h4
      | true =>
        simp only [if_true] at h4 ⊢
        exact h4 D rfl
  start := fun a b => PpSet.codeAny_compStart_set a b
end

/-! ### the rules -/
section
variable {X : Cx} {kx vx elt tg iter e : Expr} {ifs : List Expr} {scope : Scope} {own : List (PySem.Str × Nat)} {pos : Pos} {wi : TI} {g : TG} {tt : TT} {te tk tv : TE}
theorem pe_coll {mk : Expr} {new : Sem Value} {o0 : Obj} {u0 : Addr → HO} {tail : TailW} (C : Coll X mk tg iter ifs new o0 u0 tail) {tl : Addr → L2.St → Hp → (Hp → Prop) → Prop} {p2 : Pos} (hev : eval mk X.env = comprehension mk scope X.env p2 new false (eval iter X.env))
    (hc : X.calm = true) (hN : X.N.Nodup) (hi : PI X tg iter wi) (ok : BlkOk X.N X.env.scope scope own)
    (hg : ∀ (s : Shared) (H : Hp) (C : Addr) (cl : List (PySem.Str × Addr)) (fp : List Addr), PG (X.blk s H scope (compEnvC scope cl C X.env) fp) tg g)
    (ht : ∀ (s : Shared) (H : Hp) (C : Addr) (cl : List (PySem.Str × Addr)) (fp : List Addr), PTs (X.blk s H scope (compEnvC scope cl C X.env) fp) ifs tt)
    (htl : ∀ (s : Shared) (H : Hp) (C : Addr) (cl : List (PySem.Str × Addr)) (fp : List Addr), TailOk (X.blk s H scope (compEnvC scope cl C X.env) fp) tail tl) (hs : ∀ x, foldedSetIterable iter X.env x = pure x) (hcl : clausesOf mk = [⟨tg, iter, ifs, 0⟩]) :
    PE X mk (tColl u0 wi g tt tl (own.map (·.2))) := ⟨fun pins s σ H Q I h => by
  rw [hev]
  refine coll_core C hc I hN hi ok hg ht htl hs h (fun D C s' m H' I' q hn f => ⟨m, hn, fun h'' sb => ?_⟩) hcl
  obtain ⟨f0, f1, f2, f3, f4, f5⟩ := f
  exact ⟨.ref D, H', I'.turned (t' := s'.toks) (fun b o hb e => (sb.2 b hb).trans e) f0 f1 f3 f4 f5, rfl, q⟩⟩
theorem pe_dcG {u0 : Addr → HO} (h0 : u0 = u0K ∨ u0 = u0T) (hu : X.A.units + 1 < cLine) (hc : X.calm = true) (hN : X.N.Nodup) (hi : PI X tg iter wi) (ok : BlkOk X.N X.env.scope scope own)
    (hg : ∀ (s : Shared) (H : Hp) (C : Addr) (cl : List (PySem.Str × Addr)) (fp : List Addr), PG (X.blk s H scope (compEnvC scope cl C X.env) fp) tg g)
    (ht : ∀ (s : Shared) (H : Hp) (C : Addr) (cl : List (PySem.Str × Addr)) (fp : List Addr), PTs (X.blk s H scope (compEnvC scope cl C X.env) fp) ifs tt)
    (hk : ∀ (s : Shared) (H : Hp) (C : Addr) (cl : List (PySem.Str × Addr)) (fp : List Addr), PE (X.blk s H scope (compEnvC scope cl C X.env) fp) kx tk)
    (hv : ∀ (s : Shared) (H : Hp) (C : Addr) (cl : List (PySem.Str × Addr)) (fp : List Addr), PE (X.blk s H scope (compEnvC scope cl C X.env) fp) vx tv) (hs : ∀ x, foldedSetIterable iter X.env x = pure x := by intro _; rfl) :
    PE X (.DictComp kx vx [⟨tg, iter, ifs, 0⟩] scope pos) (tColl u0 wi g tt (tlD tk tv) (own.map (·.2))) :=
  pe_coll (coll_dict h0) (arm_eval_DictComp ..) hc hN hi ok hg ht (fun s H C cl fp pins σ H' s' D Nx post err I q hp D' e => by
    cases e
    refine thnF ((hk s H C cl fp).run pins s' σ H' _ I q) fun kv s4 h4 => ?_
    obtain ⟨y, H4, I4, ry, q4⟩ := h4
    refine thnF ((hv s H C cl fp).run pins s4 σ H4 _ I4 q4) fun vv s5 h5 => ?_
    obtain ⟨z, H5, I5, rz, H6, dp, nx⟩ := h5
    exact dictSetP (X := X.blk s H scope (compEnvC scope cl C X.env) fp) hu I5 dp ry rz fun s6 I6 => hp s6 H6 I6 nx) hs rfl
theorem pe_scI (hc : X.calm = true) (hN : X.N.Nodup) (hi : PI X tg iter wi) (ok : BlkOk X.N X.env.scope scope own)
    (hg : ∀ (s : Shared) (H : Hp) (C : Addr) (cl : List (PySem.Str × Addr)) (fp : List Addr), PG (X.blk s H scope (compEnvC scope cl C X.env) fp) tg g)
    (ht : ∀ (s : Shared) (H : Hp) (C : Addr) (cl : List (PySem.Str × Addr)) (fp : List Addr), PTs (X.blk s H scope (compEnvC scope cl C X.env) fp) ifs tt)
    (he : ∀ (s : Shared) (H : Hp) (C : Addr) (cl : List (PySem.Str × Addr)) (fp : List Addr), PE (X.blk s H scope (compEnvC scope cl C X.env) fp) elt te) (hs : ∀ x, foldedSetIterable iter X.env x = pure x := by intro _; rfl) :
    PE X (.SetComp elt [⟨tg, iter, ifs, 0⟩] scope pos) (tColl (u0I X.w) wi g tt (tlI X.w te) (own.map (·.2))) :=
  pe_coll coll_set (PpSet.eval_SetComp ..) hc hN hi ok hg ht (fun s H C cl fp pins σ H' s' D Nx post err I q hp D' e => by
    cases e
    refine thnF ((he s H C cl fp).run pins s' σ H' _ I q) fun v s4 h4 => ?_
    obtain ⟨y, H4, I4, ry, k, S, n, rfl, hD, room, nx⟩ := h4
    obtain ⟨t, rfl⟩ := ry
    exact addI_ok (X := X.blk s H scope (compEnvC scope cl C X.env) fp) I4 hD room fun s6 I6 => hp s6 _ I6 nx) hs rfl
end

/-! ### reading a collector's walk -/
/-- the walk from here on -/
def collL {β : Type} (I : Its) (t : Tgt) (mt : Fr → M Bool) (step : Fr → β → M β) (fr : Fr) : List AV → β → M β
  | [], b, st => if gdok I st then .ok b st else .stuck
  | x :: xs, b, st => if gdok I st then (match setTgt t x fr with
    | some fr1 => (mt fr1 st).nox.bind fun ok st1 => if ok = true then (step fr1 b st1).nox.bind fun b2 st2 => collL I t mt step fr xs b2 st2 else collL I t mt step fr xs b st1
    | none => .stuck) else .stuck
/-- how a collector's object stands for what is collected -/
structure CRel (c : MC) {β : Type} (R : Addr → β → Rho → Hp → HO → Prop) : Prop where
  mono : ∀ {D b ρ H ρ' H' u}, R D b ρ H u → Stp ρ H ρ' H' → R D b ρ' H' u
  nt : ∀ {D b ρ H u}, R D b ρ H u → ∀ vs, u ≠ .tup vs
/-- a collector's comprehension behind its iterator -/
def CollB (u0 : Addr → HO) (g : TG) (tt : TT) (tl : Addr → L2.St → Hp → (Hp → Prop) → Prop) (vs : List Nat) (σ : L2.St) (Q : VK) (J : It) (H1 : Hp) : Prop := ∀ D, H1 D = none → ∃ W : Nat → Nat → Hp → Prop, (∃ m, W 0 m (upd H1 D (u0 D))) ∧ ∀ i m H, W i m H →
  (J.stop i H ∧ Q (.ref D) H) ∨ (J.go i H ∧ ∃ Nx : Hp → Prop, (∀ H', Nx H' → ∃ m', m' < m ∧ W (i + 1) m' H') ∧ ∀ x H', J.yld i H x H' → g x (L2.wipe σ vs) H' fun σ2 H2 => L2.wipe σ2 vs = L2.wipe σ vs ∧ tt σ2 H2 fun b H3 =>
    if b = true then tl D σ2 H3 Nx else Nx H3)
theorem collBody {c : MC} {W : WX} {β γ : Type} {P : γ → Rho → Hp → Prop} {own : List Nat} {t : Tgt} {mt : Fr → M Bool} {step : Fr → β → M β} {b0 : β} {kf : β → M γ} {u0 : Addr → HO} {tl : Addr → L2.St → Hp → (Hp → Prop) → Prop} {Rel : Addr → β → Rho → Hp → HO → Prop} (CR : CRel c Rel)
    (hm : ∀ i ∈ t.ix, i ∈ own) (h0 : ∀ D ρ H, Rel D b0 ρ H (u0 D))
    (htl : ∀ {σ H D Nx ρ fr b st u b' st'}, Rep c ρ fr st σ H → D ∈ ρ.h → D ∉ ρ.m → H D = some u → Rel D b ρ H u → step fr b st = .ok b' st' → (∀ ρ' H' u', Stp ρ H ρ' H' → Rep c ρ' fr st' σ H' → H' D = some u → (∀ vs, u' ≠ .tup vs) → Rel D b' ρ' (upd H' D u') u' → Nx (upd H' D u')) → tl D σ H Nx)
    {σ : L2.St} {H1 : Hp} {Q : VK} {I : Its} {ρ1 : Rho} {fr : Fr} {st1 : Sto} {J : It} (r1 : Rep c ρ1 fr st1 σ H1) (wk : WkM c J I ρ1 H1) (p1 : Pst c W ρ1 fr σ H1 P ((collL I t mt step (wipeF fr own) I.its b0 st1).bind kf))
    (hfin : ∀ {D b st ρ1 H1 ρ' H' u fr}, H1 D = none → Stp ρ1 H1 ρ' H' → Rep c ρ' fr st σ H' → D ∈ ρ'.h → D ∉ ρ'.m → D ∉ ρ1.h → H' D = some u → Rel D b ρ' H' u → Pst c W ρ1 fr σ H1 P (kf b st) → Q (.ref D) H') : CollB u0 (gTgt c.K t) (tMb c W0 mt) tl own σ Q J H1 := by
  intro D hD
  have nD : ¬ ρ1.has D := r1.notin hD
  have key : ∃ Iv : Nat → Hp → Prop, Iv = (fun i H' => i ≤ I.its.length ∧ ∃ ρ' st' b u, Stp ρ1 H1 ρ' H' ∧ Rep c ρ' fr st' σ H' ∧ D ∈ ρ'.h ∧ D ∉ ρ'.m ∧ H' D = some u ∧ Rel D b ρ' H' u ∧
    Pst c W ρ1 fr σ H1 P ((collL I t mt step (wipeF fr own) (I.its.drop i) b st').bind kf)) := ⟨_, rfl⟩
  obtain ⟨Iv, hIv⟩ := key
  have s00 : Iv 0 (upd H1 D (u0 D)) := by
    rw [hIv]
    exact ⟨Nat.zero_le _, ρ1.hide D, st1, b0, _, Stp.hide hD, r1.hide hD, List.mem_cons_self, fun z => nD (.inl z), upd_same, h0 _ _ _, by simpa using p1⟩
  refine ⟨fun i m H' => m = I.its.length - i ∧ Iv i H', ⟨I.its.length, by simp, s00⟩, ?_⟩
  rintro i m H' ⟨rfl, hiv⟩
  have hiv' := hiv
  rw [hIv] at hiv'
  obtain ⟨hi, ρ', st', b, u, s, r, hh, nDm, hDv, hR, p⟩ := hiv'
  by_cases hlt : i < I.its.length
  · rw [drop_at hlt] at p
    simp only [collL] at p
    by_cases hg : gdok I st'
    case neg => rw [if_neg hg] at p; exact p.elim
    rw [if_pos hg] at p
    obtain ⟨go, yl⟩ := (wk i ρ' H' s.w (gdok_ok r hg)).1 hlt
    refine .inr ⟨go, Iv (i + 1), fun H'' h => ⟨I.its.length - (i + 1), by omega, rfl, h⟩, fun x H2 hy => ?_⟩
    obtain ⟨hH2, hv⟩ := yl x H2 hy
    have hvx := hv _ (List.getElem?_eq_getElem hlt)
    have s2r2 : Stp ρ' H' ρ' H2 ∧ Rep c ρ' fr st' σ H2 ∧ H2 D = some u := by
      rcases hH2 with e | ⟨T, o, hT, e⟩
      · subst e; exact ⟨Stp.refl _ _, r, hDv⟩
      · subst e; exact ⟨Stp.tmp hT, r.tmp hT, by rw [upd_ne (ne_of_none hDv hT)]; exact hDv⟩
    obtain ⟨s2, r2, hD2⟩ := s2r2
    cases ef : setTgt t I.its[i] (wipeF fr own) with
    | none => simp only [ef, R.bind_stuck] at p; exact p.elim
    | some fr1 =>
      simp only [ef] at p
      refine gTgt_ok (r2.wipe own) hvx ef hm fun σ2 r3 hw => ⟨by rw [hw, wipe_wipe], ρ', fr1, st', [], r3, .nil, ?_⟩
      show Pst c W0 ρ' fr1 σ2 H2 _ (mt fr1 st')
      cases et : mt fr1 st' with
      | stuck => simp only [et, R.nox_stuck, R.bind_stuck] at p; exact p.elim
      | exc e st2 => simp only [et, R.nox_exc, R.bind_stuck] at p; exact p.elim
      | ok ok st2 =>
        simp only [et, R.nox_ok, R.bind_ok] at p
        intro ρ3 H3 s3 r3'
        have nD3 : D ∉ ρ3.m := s3.outm nDm (by rw [hD2]; simp)
        have hD3 : H3 D = some u := s3.keep D _ nDm hD2
        have s13 := s2.trans s3
        show if ok = true then _ else _
        cases ok with
        | false =>
          rw [if_neg Bool.false_ne_true] at p ⊢
          rw [hIv]
          exact ⟨hlt, ρ3, st2, b, u, s.trans s13, r.back s13 r3', s13.sub D hh, nD3, hD3, CR.mono hR s13, p⟩
        | true =>
          rw [if_pos rfl] at p ⊢
          cases em : step fr1 b st2 with
          | stuck => simp only [em, R.nox_stuck, R.bind_stuck] at p; exact p.elim
          | exc e st4 => simp only [em, R.nox_exc, R.bind_stuck] at p; exact p.elim
          | ok b2 st4 =>
            simp only [em, R.nox_ok, R.bind_ok] at p
            refine htl r3' (s13.sub D hh) nD3 hD3 (CR.mono hR s13) em fun ρ4 H4 u4 s4 r4 hD4 nu4 hR4 => ?_
            have nD4 : D ∉ ρ4.m := s4.outm nD3 (by rw [hD3]; simp)
            have s24 := s13.trans s4
            have hh4 : D ∈ ρ4.h := s24.sub D hh
            have nt : ∀ ws, H4 D ≠ some (.tup ws) := fun ws e => CR.nt hR ws (by rw [hD4] at e; exact Option.some.inj e)
            rw [hIv]
            exact ⟨hlt, ρ4, st4, b2, u4, (s.trans s24).poke hD, (r.back s24 r4).poke hh4 nD4 nt, hh4, nD4, upd_same, hR4, p⟩
  · have e : i = I.its.length := by omega
    subst e
    rw [List.drop_length] at p
    simp only [collL] at p
    by_cases hg : gdok I st'
    case neg => rw [if_neg hg] at p; exact p.elim
    rw [if_pos hg] at p
    exact .inl ⟨(wk _ ρ' H' s.w (gdok_ok r hg)).2 rfl, hfin hD s r hh nDm (fun z => nD (.inr z)) hDv hR p⟩
theorem collRead {c : MC} {W : WX} {β γ : Type} {P : γ → Rho → Hp → Prop} {own : List Nat} {t : Tgt} {mi : Fr → M Its} {mt : Fr → M Bool} {step : Fr → β → M β} {b0 : β} {kf : β → M γ} {u0 : Addr → HO} {tl : Addr → L2.St → Hp → (Hp → Prop) → Prop} {Rel : Addr → β → Rho → Hp → HO → Prop} (CR : CRel c Rel)
    (hm : ∀ i ∈ t.ix, i ∈ own) (h0 : ∀ D ρ H, Rel D b0 ρ H (u0 D))
    (htl : ∀ {σ H D Nx ρ fr b st u b' st'}, Rep c ρ fr st σ H → D ∈ ρ.h → D ∉ ρ.m → H D = some u → Rel D b ρ H u → step fr b st = .ok b' st' → (∀ ρ' H' u', Stp ρ H ρ' H' → Rep c ρ' fr st' σ H' → H' D = some u → (∀ vs, u' ≠ .tup vs) → Rel D b' ρ' (upd H' D u') u' → Nx (upd H' D u')) → tl D σ H Nx)
    {σ : L2.St} {H : Hp} {Q : VK} (q : tG c W [] (fun _ fr st => (mi fr st).bind fun I st1 => (collL I t mt step (wipeF fr own) I.its b0 st1).bind kf) P σ H)
    (hfin : ∀ {D b st ρ1 H1 ρ' H' u fr}, H1 D = none → Stp ρ1 H1 ρ' H' → Rep c ρ' fr st σ H' → D ∈ ρ'.h → D ∉ ρ'.m → D ∉ ρ1.h → H' D = some u → Rel D b ρ' H' u → Pst c W ρ1 fr σ H1 P (kf b st) → Q (.ref D) H') : tColl u0 (tMi c W mi) (gTgt c.K t) (tMb c W0 mt) tl own σ H Q := by
  have q1 := bindI (c := c) (W := W) (m := mi) (P := P) (k := fun I fr st1 => (collL I t mt step (wipeF fr own) I.its b0 st1).bind kf) q
  refine tMi_imp q1 fun J H1 hJ => ?_
  obtain ⟨I, ρ1, fr, st1, r1, wk, p1⟩ := hJ
  exact collBody CR hm h0 htl r1 wk p1 hfin
end MM
set_option Elab.async false
set_option linter.all false
set_option maxRecDepth 100000
set_option maxHeartbeats 4000000
/-! The mirror's dict comprehensions (by value, or put into the store) and len of a set comprehension of ints. -/
namespace MM
open PySem PySem.Spec PyProof.Rows L2

section
variable {c : MC} {ρ ρ2 : Rho} {H : Hp} (hs : ∀ a, ρ2.has a → ρ.has a) (hm : ∀ (n : Nat) (a : Addr), ρ.m[n]? = some a → ρ2.m[n]? = some a)
include hs hm
mutual
/-- other sets of ours -/
theorem VR.move : ∀ {x : AV} {v : V}, VR c ρ H x v → VR c ρ2 H x v
  | _, _, .non => .non
  | _, _, .bl b => .bl b
  | _, _, .int i => .int i
  | _, _, .str x => .str x
  | _, _, .ty n => .ty n
  | _, _, .tup q r => .tup q (VRs.move r)
  | _, _, .ktup q r => .ktup q (VRs.move r)
  | _, _, .lst q n r => .lst q (fun z => n (hs _ z)) (VRs.move r)
  | _, _, .dk q n r => .dk q (fun z => n (hs _ z)) (VRk.move r)
  | _, _, .dt q n r => .dt q (fun z => n (hs _ z)) (VRt.move r)
  | _, _, .ins g q n r => .ins g q (fun z => n (hs _ z)) (VRf.move r)
  | _, _, .ptr q => .ptr (hm _ _ q)
  | _, _, .glo q => .glo q
theorem VRs.move : ∀ {x : List AV} {v : List V}, VRs c ρ H x v → VRs c ρ2 H x v
  | _, _, .nil => .nil
  | _, _, .cons q r => .cons (VR.move q) (VRs.move r)
theorem VRk.move : ∀ {x : List (Key × AV)} {v : List (Key × V)}, VRk c ρ H x v → VRk c ρ2 H x v
  | _, _, .nil => .nil
  | _, _, .cons q r => .cons (VR.move q) (VRk.move r)
theorem VRt.move : ∀ {x : List (List Key × AV)} {v : List (List Key × V)}, VRt c ρ H x v → VRt c ρ2 H x v
  | _, _, .nil => .nil
  | _, _, .cons q r => .cons (VR.move q) (VRt.move r)
theorem VRf.move : ∀ {x : List (String × AV)} {v : List (Str × V)}, VRf c ρ H x v → VRf c ρ2 H x v
  | _, _, .nil => .nil
  | _, _, .cons q r => .cons (VR.move q) (VRf.move r)
end
theorem OR.move {o : Ob} {u : HO} (q : OR c ρ H o u) : OR c ρ2 H o u := by
  cases q with
  | lst r => exact .lst (r.move hs hm)
  | dk r => exact .dk (r.move hs hm)
  | dt r => exact .dt (r.move hs hm)
  | ins g r => exact .ins g (r.move hs hm)
end
section
variable {c : MC} {ρ ρ1 : Rho} {H H1 : Hp} {fr : Fr} {st : Sto} {σ : L2.St}
/-- a hidden object becomes one of the store -/
def Rho.show (ρ : Rho) (D : Addr) : Rho := (ρ.drop D).add D
theorem show_has {ρ : Rho} {D : Addr} (hd : D ∈ ρ.h) (a : Addr) (z : (ρ.show D).has a) : ρ.has a := by
  rcases z with z | z
  · rcases List.mem_append.mp (show a ∈ ρ.m ++ [D] from z) with z | z
    · exact .inl z
    · exact .inr (List.mem_singleton.mp z ▸ hd)
  · exact .inr (List.mem_filter.mp z).1
theorem show_get {ρ : Rho} {D : Addr} (n : Nat) (a : Addr) (h : ρ.m[n]? = some a) : (ρ.show D).m[n]? = some a := by
  show (ρ.m ++ [D])[n]? = some a
  rw [List.getElem?_append_left (List.getElem?_eq_some_iff.mp h).1]
  exact h
theorem Stp.show (s : Stp ρ1 H1 ρ H) {D : Addr} (hD : H1 D = none) (n : D ∉ ρ1.h) : Stp ρ1 H1 (ρ.show D) H := by
  have s' := s.drop hD n
  obtain ⟨new, e, hn⟩ := s'.ext
  refine ⟨⟨new ++ [D], ?_, fun a ha => ?_⟩, s'.sub, s'.hid, s'.keep, s'.tups, s'.live⟩
  · show (ρ.drop D).m ++ [D] = ρ1.m ++ (new ++ [D])
    rw [e, List.append_assoc]
  · rcases List.mem_append.mp ha with ha | ha
    · exact hn a ha
    · rw [List.mem_singleton.mp ha]; exact hD
theorem Rep.show (r : Rep c ρ fr st σ H) {D : Addr} {o : Ob} {u : HO} (hd : D ∈ ρ.h) (hm : D ∉ ρ.m) (e : H D = some u) (q : OR c ρ H o u) : Rep c (ρ.show D) fr (st ++ [o]) σ H := by
  have hs := show_has hd
  have hg := fun n a h => show_get (ρ := ρ) (D := D) n a h
  refine ⟨by simp [Rho.show, Rho.add, Rho.drop, r.len], r.fl, fun i v e => let ⟨x, q, w⟩ := r.fr i v e; ⟨x, q, w.move hs hg⟩, fun i j a hi hj => ?_, fun i ob hi => ?_, fun a ha => r.hd a (List.mem_filter.mp ha).1⟩
  · have hi : (ρ.m ++ [D])[i]? = some a := hi
    have hj : (ρ.m ++ [D])[j]? = some a := hj
    have look : ∀ {k : Nat}, (ρ.m ++ [D])[k]? = some a → (ρ.m[k]? = some a) ∨ (k = ρ.m.length ∧ a = D) := fun {k} hk => by
      by_cases h1 : k < ρ.m.length
      · rw [List.getElem?_append_left h1] at hk; exact .inl hk
      · rw [List.getElem?_append_right (Nat.le_of_not_lt h1)] at hk
        have h2 := (List.getElem?_eq_some_iff.mp hk).1
        have h3 : k - ρ.m.length = 0 := by simpa using h2
        rw [h3] at hk
        exact .inr ⟨by omega, by simpa using hk.symm⟩
    rcases look hi with h1 | ⟨h1, h2⟩ <;> rcases look hj with h3 | ⟨h3, h4⟩
    · exact r.inj i j a h1 h3
    · exact absurd (List.mem_of_getElem? h1) (h4 ▸ hm)
    · exact absurd (List.mem_of_getElem? h3) (h2 ▸ hm)
    · omega
  · by_cases h1 : i < st.length
    · rw [List.getElem?_append_left h1] at hi
      obtain ⟨a, w, e1, e2, e3⟩ := r.ob i ob hi
      exact ⟨a, w, hg i a e1, e2, e3.move hs hg⟩
    · rw [List.getElem?_append_right (Nat.le_of_not_lt h1)] at hi
      have h2 := (List.getElem?_eq_some_iff.mp hi).1
      have h3 : i - st.length = 0 := by simpa using h2
      rw [h3] at hi
      have eo : o = ob := by simpa using hi
      subst eo
      have ei : i = ρ.m.length := by rw [← r.len]; omega
      refine ⟨D, u, ?_, e, q.move hs hg⟩
      show (ρ.m ++ [D])[i]? = some D
      rw [ei]; simp
end

/-! ### dict comprehensions -/
def stepK (mk mv : Fr → M AV) : Fr → List (Key × AV) → M (List (Key × AV)) := fun fr b st => (mk fr st).bind fun kx st1 => (mv fr st1).bind fun v st2 => match keyK kx with
  | some k => if b.length < 16000000 then .ok (putD b k v) st2 else .stuck
  | none => .stuck
def stepT (mk mv : Fr → M AV) : Fr → List (List Key × AV) → M (List (List Key × AV)) := fun fr b st => (mk fr st).bind fun kx st1 => (mv fr st1).bind fun v st2 => match keyT kx with
  | some k => if b.length < 16000000 then .ok (putD b k v) st2 else .stuck
  | none => .stuck
def mColl {β : Type} (own : List Nat) (t : Tgt) (mi : Fr → M Its) (mt : Fr → M Bool) (step : Fr → β → M β) (b0 : β) (kf : β → M AV) : Fr → M AV := fun fr st => (mi fr st).bind fun I st1 => (collL I t mt step (wipeF fr own) I.its b0 st1).bind kf
def mDcK (own : List Nat) (t : Tgt) (mi : Fr → M Its) (mt : Fr → M Bool) (mk mv : Fr → M AV) : Fr → M AV := mColl own t mi mt (stepK mk mv) [] fun b st => .ok (.dk b) st
def mDcT (own : List Nat) (t : Tgt) (mi : Fr → M Its) (mt : Fr → M Bool) (mk mv : Fr → M AV) : Fr → M AV := mColl own t mi mt (stepT mk mv) [] fun b st => .ok (.dt b) st
def mDcKn (own : List Nat) (t : Tgt) (mi : Fr → M Its) (mt : Fr → M Bool) (mk mv : Fr → M AV) : Fr → M AV := mColl own t mi mt (stepK mk mv) [] fun b st => .ok (.ptr st.length) (st ++ [.dk b])
def mDcTn (own : List Nat) (t : Tgt) (mi : Fr → M Its) (mt : Fr → M Bool) (mk mv : Fr → M AV) : Fr → M AV := mColl own t mi mt (stepT mk mv) [] fun b st => .ok (.ptr st.length) (st ++ [.dt b])
def RK (c : MC) : Addr → List (Key × AV) → Rho → Hp → HO → Prop := fun _ b ρ H u => ∃ kws, u = .dK kws ∧ VRk c ρ H b kws
def RT (c : MC) : Addr → List (List Key × AV) → Rho → Hp → HO → Prop := fun _ b ρ H u => ∃ kws, u = .dT kws ∧ VRt c ρ H b kws
theorem crK {c : MC} : CRel c (RK c) := ⟨fun ⟨k, e, h⟩ s => ⟨k, e, h.mono s⟩, fun ⟨k, e, _⟩ vs z => by rw [e] at z; cases z⟩
theorem crT {c : MC} : CRel c (RT c) := ⟨fun ⟨k, e, h⟩ s => ⟨k, e, h.mono s⟩, fun ⟨k, e, _⟩ vs z => by rw [e] at z; cases z⟩
section
variable {c : MC} {mk mv : Fr → M AV} {own : List Nat} {t : Tgt} {mi : Fr → M Its} {mt : Fr → M Bool} {W : WX} {σ : L2.St} {H : Hp} {Q : VK}
theorem two_at {ρ : Rho} {fr : Fr} {st st1 st2 : Sto} {kx v : AV} {Q : V → V → Hp → Prop} (r : Rep c ρ fr st σ H) (ek : mk fr st = .ok kx st1) (ev : mv fr st1 = .ok v st2) (q : ∀ ρ' H' x y, Stp ρ H ρ' H' → Rep c ρ' fr st2 σ H' → VR c ρ' H' kx x → VR c ρ' H' v y → Q x y H') :
    tM c W0 mk σ H fun x H4 => tM c W0 mv σ H4 fun y H5 => Q x y H5 := by
  refine ⟨ρ, fr, st, [], r, .nil, ?_⟩
  show Pst c W0 ρ fr σ H _ (mk fr st)
  rw [ek]
  intro ρ1 H1 s1 r1 x hx
  refine ⟨ρ1, fr, st1, [], r1, .nil, ?_⟩
  show Pst c W0 ρ1 fr σ H1 _ (mv fr st1)
  rw [ev]
  exact fun ρ2 H2 s2 r2 y hy => q ρ2 H2 x y (s1.trans s2) r2 (hx.mono s2) hy
theorem bind_ok_inv {α β : Type} {r : R α} {f : α → Sto → R β} {b : β} {st' : Sto} (h : r.bind f = .ok b st') : ∃ a st, r = .ok a st ∧ f a st = .ok b st' := by
  cases r with
  | ok a st => exact ⟨a, st, rfl, h⟩
  | exc _ _ => cases h
  | stuck => cases h
theorem tailK {D : Addr} {Nx : Hp → Prop} {ρ : Rho} {fr : Fr} {b : List (Key × AV)} {st : Sto} {u : HO} {b' : List (Key × AV)} {st' : Sto} (r : Rep c ρ fr st σ H) (hD : D ∈ ρ.h) (hDm : D ∉ ρ.m) (e : H D = some u) (hR : RK c D b ρ H u) (es : stepK mk mv fr b st = .ok b' st')
    (q : ∀ ρ' H' u', Stp ρ H ρ' H' → Rep c ρ' fr st' σ H' → H' D = some u → (∀ vs, u' ≠ .tup vs) → RK c D b' ρ' (upd H' D u') u' → Nx (upd H' D u')) : tlD (tM c W0 mk) (tM c W0 mv) D σ H Nx := by
  unfold stepK at es
  obtain ⟨kx, st1, ek, es⟩ := bind_ok_inv es
  obtain ⟨v, st2, ev, es⟩ := bind_ok_inv es
  cases ekk : keyK kx with
  | none => rw [ekk] at es; cases es
  | some k =>
    rw [ekk] at es
    simp only at es
    by_cases hl : b.length < 16000000
    case neg => rw [if_neg hl] at es; cases es
    rw [if_pos hl] at es
    cases es
    refine two_at r ek ev fun ρ' H' x y s r' hx hy => ?_
    have ex := keyK_ok hx ekk
    subst ex
    obtain ⟨kws, rfl, hk⟩ := hR
    have e' : H' D = some (.dK kws) := s.keep D _ hDm e
    have hp := hy
    have hDh := s.sub D hD
    have nt : ∀ vs, H' D ≠ some (.tup vs) := fun vs z => by rw [e'] at z; cases z
    refine ⟨_, DPut.k e' (by rw [← hk.len]; have : sizeLine = 16777216 := sizeLine_eq; omega), q ρ' H' _ s r' e' (fun vs z => HO.noConfusion z) ⟨_, rfl, ((hk.mono s).put (k := k) hy).poke hDh nt⟩⟩
theorem tailT {D : Addr} {Nx : Hp → Prop} {ρ : Rho} {fr : Fr} {b : List (List Key × AV)} {st : Sto} {u : HO} {b' : List (List Key × AV)} {st' : Sto} (r : Rep c ρ fr st σ H) (hD : D ∈ ρ.h) (hDm : D ∉ ρ.m) (e : H D = some u) (hR : RT c D b ρ H u) (es : stepT mk mv fr b st = .ok b' st')
    (q : ∀ ρ' H' u', Stp ρ H ρ' H' → Rep c ρ' fr st' σ H' → H' D = some u → (∀ vs, u' ≠ .tup vs) → RT c D b' ρ' (upd H' D u') u' → Nx (upd H' D u')) : tlD (tM c W0 mk) (tM c W0 mv) D σ H Nx := by
  unfold stepT at es
  obtain ⟨kx, st1, ek, es⟩ := bind_ok_inv es
  obtain ⟨v, st2, ev, es⟩ := bind_ok_inv es
  cases ekk : keyT kx with
  | none => rw [ekk] at es; cases es
  | some k =>
    rw [ekk] at es
    simp only at es
    by_cases hl : b.length < 16000000
    case neg => rw [if_neg hl] at es; cases es
    rw [if_pos hl] at es
    cases es
    refine two_at r ek ev fun ρ' H' x y s r' hx hy => ?_
    obtain ⟨a, rfl, ea⟩ := keyT_ok hx ekk
    obtain ⟨kws, rfl, hk⟩ := hR
    have e' : H' D = some (.dT kws) := s.keep D _ hDm e
    have hDh := s.sub D hD
    have nt : ∀ vs, H' D ≠ some (.tup vs) := fun vs z => by rw [e'] at z; cases z
    refine ⟨_, DPut.t e' ea (by rw [← hk.len]; have : sizeLine = 16777216 := sizeLine_eq; omega), q ρ' H' _ s r' e' (fun vs z => HO.noConfusion z) ⟨_, rfl, ((hk.mono s).put (k := k) hy).poke hDh nt⟩⟩
end
section
variable {X : Cx} {G : String → Option Addr} {W : WX} {kx vx elt tg iter : Expr} {ifs : List Expr} {scope : Scope} {own : List (PySem.Str × Nat)} {pos : Pos} {t : Tgt} {mi : Fr → M Its} {mt : Fr → M Bool} {mk mv me : Fr → M AV}
abbrev BlkG (X : Cx) (scope : Scope) (tg : Expr) (t : Tgt) : Prop := ∀ (s : Shared) (H : Hp) (C : Addr) (cl : List (PySem.Str × Addr)) (fp : List Addr), PG (X.blk s H scope (compEnvC scope cl C X.env) fp) tg (gTgt X.K t)
abbrev BlkT (X : Cx) (G : String → Option Addr) (scope : Scope) (ifs : List Expr) (mt : Fr → M Bool) : Prop := ∀ (s : Shared) (H : Hp) (C : Addr) (cl : List (PySem.Str × Addr)) (fp : List Addr), PTs (X.blk s H scope (compEnvC scope cl C X.env) fp) ifs (tMb (cx X G) W0 mt)
abbrev BlkE (X : Cx) (G : String → Option Addr) (scope : Scope) (e : Expr) (m : Fr → M AV) : Prop := ∀ (s : Shared) (H : Hp) (C : Addr) (cl : List (PySem.Str × Addr)) (fp : List Addr), PE (X.blk s H scope (compEnvC scope cl C X.env) fp) e (tM (cx X G) W0 m)
theorem tG_nil {c : MC} {W : WX} {α : Type} {P : α → Rho → Hp → Prop} {m : Fr → M α} {σ : L2.St} {H : Hp} (h : tG c W [] (fun _ => m) P σ H) : tG c W [] (fun _ fr st => m fr st) P σ H := h
theorem me_dcK (hu : X.A.units + 1 < cLine) (hc : X.calm = true) (hN : X.N.Nodup) (hi : MI X G W tg iter mi) (ok : BlkOk X.N X.env.scope scope own) (hm : ∀ i ∈ t.ix, i ∈ own.map (·.2)) (hg : BlkG X scope tg t) (ht : BlkT X G scope ifs mt) (hk : BlkE X G scope kx mk) (hv : BlkE X G scope vx mv)
    (hs : ∀ x, foldedSetIterable iter X.env x = pure x := by intro _; rfl) : ME X G W (.DictComp kx vx [⟨tg, iter, ifs, 0⟩] scope pos) (mDcK (own.map (·.2)) t mi mt mk mv) :=
  pe_imp (pe_dcG (.inl rfl) hu hc hN hi ok hg ht hk hv hs) fun σ H Q q => collRead (Rel := RK (cx X G)) (P := PV (cx X G) Q) (kf := fun b st => .ok (.dk b) st) crK hm (fun _ _ _ => ⟨_, rfl, .nil⟩) (fun r a b d e f g => tailK r a b d e f g) (tG_nil q)
    fun {D b st ρ1 H1 ρ' H' u fr} hD s r hh nm nh e hR p => by
      obtain ⟨kws, rfl, hk⟩ := hR
      refine p (ρ'.drop D) H' (s.drop hD nh) r.drop (.ref D) (.dk (.inl e) (fun z => ?_) hk.drop)
      rcases z with z | z
      · exact nm z
      · have := (List.mem_filter.mp z).2; simp at this
theorem me_dcT (hu : X.A.units + 1 < cLine) (hc : X.calm = true) (hN : X.N.Nodup) (hi : MI X G W tg iter mi) (ok : BlkOk X.N X.env.scope scope own) (hm : ∀ i ∈ t.ix, i ∈ own.map (·.2)) (hg : BlkG X scope tg t) (ht : BlkT X G scope ifs mt) (hk : BlkE X G scope kx mk) (hv : BlkE X G scope vx mv)
    (hs : ∀ x, foldedSetIterable iter X.env x = pure x := by intro _; rfl) : ME X G W (.DictComp kx vx [⟨tg, iter, ifs, 0⟩] scope pos) (mDcT (own.map (·.2)) t mi mt mk mv) :=
  pe_imp (pe_dcG (.inr rfl) hu hc hN hi ok hg ht hk hv hs) fun σ H Q q => collRead (Rel := RT (cx X G)) (P := PV (cx X G) Q) (kf := fun b st => .ok (.dt b) st) crT hm (fun _ _ _ => ⟨_, rfl, .nil⟩) (fun r a b d e f g => tailT r a b d e f g) (tG_nil q)
    fun {D b st ρ1 H1 ρ' H' u fr} hD s r hh nm nh e hR p => by
      obtain ⟨kws, rfl, hk⟩ := hR
      refine p (ρ'.drop D) H' (s.drop hD nh) r.drop (.ref D) (.dt (.inl e) (fun z => ?_) hk.drop)
      rcases z with z | z
      · exact nm z
      · have := (List.mem_filter.mp z).2; simp at this
theorem me_dcKn (hu : X.A.units + 1 < cLine) (hc : X.calm = true) (hN : X.N.Nodup) (hi : MI X G W tg iter mi) (ok : BlkOk X.N X.env.scope scope own) (hm : ∀ i ∈ t.ix, i ∈ own.map (·.2)) (hg : BlkG X scope tg t) (ht : BlkT X G scope ifs mt) (hk : BlkE X G scope kx mk) (hv : BlkE X G scope vx mv)
    (hs : ∀ x, foldedSetIterable iter X.env x = pure x := by intro _; rfl) : ME X G W (.DictComp kx vx [⟨tg, iter, ifs, 0⟩] scope pos) (mDcKn (own.map (·.2)) t mi mt mk mv) :=
  pe_imp (pe_dcG (.inl rfl) hu hc hN hi ok hg ht hk hv hs) fun σ H Q q => collRead (Rel := RK (cx X G)) (P := PV (cx X G) Q) (kf := (fun b st => .ok (.ptr st.length) (st ++ [Ob.dk b]) : List (Key × AV) → M AV)) crK hm (fun _ _ _ => ⟨_, rfl, .nil⟩) (fun r a b d e f g => tailK r a b d e f g) (tG_nil q)
    fun {D b st ρ1 H1 ρ' H' u fr} hD s r hh nm nh e hR p => by
      obtain ⟨kws, rfl, hk⟩ := hR
      refine p (ρ'.show D) H' (s.show hD nh) (r.show hh nm e (.dk hk)) (.ref D) (.ptr ?_)
      show (ρ'.m ++ [D])[st.length]? = some D
      rw [r.len]; simp
theorem me_dcTn (hu : X.A.units + 1 < cLine) (hc : X.calm = true) (hN : X.N.Nodup) (hi : MI X G W tg iter mi) (ok : BlkOk X.N X.env.scope scope own) (hm : ∀ i ∈ t.ix, i ∈ own.map (·.2)) (hg : BlkG X scope tg t) (ht : BlkT X G scope ifs mt) (hk : BlkE X G scope kx mk) (hv : BlkE X G scope vx mv)
    (hs : ∀ x, foldedSetIterable iter X.env x = pure x := by intro _; rfl) : ME X G W (.DictComp kx vx [⟨tg, iter, ifs, 0⟩] scope pos) (mDcTn (own.map (·.2)) t mi mt mk mv) :=
  pe_imp (pe_dcG (.inr rfl) hu hc hN hi ok hg ht hk hv hs) fun σ H Q q => collRead (Rel := RT (cx X G)) (P := PV (cx X G) Q) (kf := (fun b st => .ok (.ptr st.length) (st ++ [Ob.dt b]) : List (List Key × AV) → M AV)) crT hm (fun _ _ _ => ⟨_, rfl, .nil⟩) (fun r a b d e f g => tailT r a b d e f g) (tG_nil q)
    fun {D b st ρ1 H1 ρ' H' u fr} hD s r hh nm nh e hR p => by
      obtain ⟨kws, rfl, hk⟩ := hR
      refine p (ρ'.show D) H' (s.show hD nh) (r.show hh nm e (.dt hk)) (.ref D) (.ptr ?_)
      show (ρ'.m ++ [D])[st.length]? = some D
      rw [r.len]; simp

/-! ### len({int for ..}) -/
def stepI (me : Fr → M AV) : Fr → List Int → M (List Int) := fun fr b st => (me fr st).bind fun v st1 => match v with
  | .int k => if b.length < 4000 then .ok (if k ∈ b then b else b ++ [k]) st1 else .stuck
  | _ => .stuck
def mLenSc (own : List Nat) (t : Tgt) (mi : Fr → M Its) (mt : Fr → M Bool) (me : Fr → M AV) : Fr → M AV := mColl own t mi mt (stepI me) [] fun b st => if b.length ≤ 4000 then .ok (.int b.length) st else .stuck
def RI (w : World) : Addr → List Int → Rho → Hp → HO → Prop := fun D b _ _ u => u = SetO w D (fun j => decide (j ∈ b)) b.length
theorem crI {c : MC} {w : World} : CRel c (RI w) := ⟨fun h _ => h, fun h vs z => by rw [show _ = SetO w _ _ _ from h] at z; unfold SetO at z; cases z⟩
theorem setO_ext {w : World} {D : Addr} {S S' : Int → Bool} {n n' : Nat} (h : ∀ j, S j = S' j) (hn : n = n') : SetO w D S n = SetO w D S' n' := by rw [funext h, hn]
theorem tailSet {c : MC} {w : World} {σ : L2.St} {H : Hp} {D : Addr} {Nx : Hp → Prop} {ρ : Rho} {fr : Fr} {b : List Int} {st : Sto} {u : HO} {b' : List Int} {st' : Sto} (r : Rep c ρ fr st σ H) (hD : D ∈ ρ.h) (hDm : D ∉ ρ.m) (e : H D = some u) (hR : RI w D b ρ H u) (es : stepI me fr b st = .ok b' st')
    (q : ∀ ρ' H' u', Stp ρ H ρ' H' → Rep c ρ' fr st' σ H' → H' D = some u → (∀ vs, u' ≠ .tup vs) → RI w D b' ρ' (upd H' D u') u' → Nx (upd H' D u')) : tlI w (tM c W0 me) D σ H Nx := by
  unfold stepI at es
  obtain ⟨v, st1, ek, es⟩ := bind_ok_inv es
  split at es
  · rename_i k
    by_cases hl : b.length < 4000
    case neg => rw [if_neg hl] at es; cases es
    rw [if_pos hl] at es
    cases es
    refine ⟨ρ, fr, st, [], r, .nil, ?_⟩
    show Pst c W0 ρ fr σ H _ (me fr st)
    rw [ek]
    intro ρ1 H1 s1 r1 x hx
    cases hx
    have eu : u = SetO w D (fun j => decide (j ∈ b)) b.length := hR
    subst eu
    have e' : H1 D = some _ := s1.keep D _ hDm e
    refine ⟨k, _, _, rfl, e', by unfold scanBound; omega, ?_⟩
    have eq : SetO w D (fun j => decide (j ∈ b) || decide (j = k)) (if decide (k ∈ b) = true then b.length else b.length + 1) = SetO w D (fun j => decide (j ∈ (if k ∈ b then b else b ++ [k]))) (if k ∈ b then b else b ++ [k]).length := by
      by_cases h : k ∈ b
      · rw [if_pos h, if_pos (decide_eq_true h)]
        refine setO_ext (fun j => ?_) rfl
        by_cases hj : j = k
        · subst hj; simp [h]
        · simp [hj]
      · rw [if_neg h, if_neg (by simpa using h)]
        refine setO_ext (fun j => ?_) (by simp)
        simp
    rw [eq]
    exact q ρ1 H1 _ s1 r1 e' (fun vs z => by unfold SetO at z; cases z) rfl
  · cases es
def rLenSO (w : World) : List V → Hp → VK → Prop := fun xs H Q => ∃ a S n, xs = [V.ref a] ∧ H a = some (SetO w a S n) ∧ n ≤ 4000 ∧ Q (.int n) H
theorem call_lenSO : CallR X (.builtin "len") (rLenSO X.w) := fun pins s σ H xs us Q I r h => by
  obtain ⟨a, S, n, rfl, ha, hn, q⟩ := h
  obtain rfl := Vals.ref1 r
  obtain ⟨o, es, ep, t, ho, hex, hd, _, _, _, hf, he⟩ := SetR.setOf (P := X.prog) (setO_get I ha)
  refine call_len_set ho hex hd hf (by rw [he]; omega) ⟨.int n, H, I.tok _, ⟨_, by rw [he]⟩, q⟩
theorem me_lenSc {p : Pos} {pos2 : Pos} (hm : X.mg "len" = none) (hc : X.calm = true) (hN : X.N.Nodup) (hi : MI X G W tg iter mi) (ok : BlkOk X.N X.env.scope scope own) (ho : ∀ i ∈ t.ix, i ∈ own.map (·.2)) (hg : BlkG X scope tg t) (ht : BlkT X G scope ifs mt) (he : BlkE X G scope elt me) (hgl : Gl X "len" := by rfl)
    (hs : ∀ x, foldedSetIterable iter X.env x = pure x := by intro _; rfl) (hst : starEach [.SetComp elt [⟨tg, iter, ifs, 0⟩] scope pos] X.env = (false, eval (.SetComp elt [⟨tg, iter, ifs, 0⟩] scope pos) X.env) :: starEach [] X.env := by rfl) :
    ME X G W (.Call (.Name "len" p) [.SetComp elt [⟨tg, iter, ifs, 0⟩] scope pos] [] pos2) (mLenSc (own.map (·.2)) t mi mt me) :=
  pe_imp (pe_callB call_lenSO hgl hm boot_len (pa_cons (pe_scI hc hN hi ok hg ht he hs) pa_nil hst) (he := hst)) fun σ H Q q => show tColl (u0I X.w) (tMi (cx X G) W mi) (gTgt X.K t) (tMb (cx X G) W0 mt) (tlI X.w (tM (cx X G) W0 me)) (own.map (·.2)) σ H (fun x H1 => rLenSO X.w [x] H1 Q) from collRead (c := cx X G) (Rel := RI X.w) (Q := fun x H1 => rLenSO X.w [x] H1 Q) (P := PV (cx X G) Q) (kf := (fun b st => if b.length ≤ 4000 then .ok (.int b.length) st else .stuck : List Int → M AV)) (b0 := ([] : List Int)) (u0 := u0I X.w) (tl := tlI X.w (tM (cx X G) W0 me)) (mt := mt) (step := stepI me) crI ho (fun _ _ _ => setO_ext (fun j => by simp) rfl) (fun r a b d e f g => tailSet r a b d e f g) (tG_nil q)
    fun {D b st ρ1 H1 ρ' H' u fr} hD s r hh nm nh e hR p => by
      have eu : u = SetO X.w D (fun j => decide (j ∈ b)) b.length := hR
      subst eu
      by_cases hl : b.length ≤ 4000
      case neg => rw [if_neg hl] at p; exact p.elim
      rw [if_pos hl] at p
      exact ⟨D, _, _, rfl, e, hl, p (ρ'.drop D) H' (s.drop hD nh) r.drop _ (.int _)⟩
end
end MM
set_option Elab.async false
set_option linter.all false
set_option maxRecDepth 100000
set_option maxHeartbeats 4000000
/-! The mirror's sorted: tuples of ints, ints by their size; of lists, tuples, dicts. -/
namespace MM
open PySem PySem.Spec PyProof.Rows L2

/-! ### sorting by insertion -/
section
variable {α : Type}
def insB (le : α → α → Bool) (a : α) : List α → List α
  | [] => [a]
  | b :: r => if le a b = true then a :: b :: r else b :: insB le a r
def isort (le : α → α → Bool) : List α → List α
  | [] => []
  | a :: r => insB le a (isort le r)
theorem insB_at {le : α → α → Bool} {a : α} : ∀ {l r : List α}, (∀ b ∈ l, (!le a b) = true) → (∀ b, r.head? = some b → le a b = true) → insB le a (l ++ r) = l ++ a :: r
  | [], [], _, _ => rfl
  | [], b :: r, _, h => by
    show insB le a (b :: r) = _
    simp only [insB, h b rfl, if_true]
    rfl
  | b :: l, r, h, k => by
    have hb := h b List.mem_cons_self
    have e : ¬ le a b = true := by simpa using hb
    show insB le a (b :: (l ++ r)) = _
    simp only [insB, if_neg e]
    rw [insB_at (fun c hc => h c (List.mem_cons_of_mem _ hc)) k]
    rfl
theorem isort_eq {le : α → α → Bool} (tr : ∀ a b c, le a b = true → le b c = true → le a c = true) (tot : ∀ a b, (le a b || le b a) = true) : ∀ l : List α, l.mergeSort le = isort le l
  | [] => by simp [isort]
  | a :: r => by
    obtain ⟨l1, l2, e1, e2, h⟩ := List.mergeSort_cons tr tot a r
    have ih := isort_eq tr tot r
    rw [e1]
    show _ = insB le a (isort le r)
    rw [← ih, e2]
    refine (insB_at h fun b hb => ?_).symm
    have hs := List.pairwise_mergeSort tr tot (a :: r)
    rw [e1] at hs
    have h2 := (List.pairwise_append.mp hs).2.1
    exact (List.pairwise_cons.mp h2).1 b (List.mem_of_mem_head? hb)
end
/-- rows of ints, upwards -/
def lexI : List Int → List Int → Bool
  | [], _ => true
  | _ :: _, [] => false
  | x :: xs, y :: ys => if x = y then lexI xs ys else decide (x < y)
theorem lexI_le : ∀ xs ys : List Int, decide (xs ≤ ys) = lexI xs ys
  | [], ys => by simp [lexI]
  | x :: xs, [] => by simp [lexI]
  | x :: xs, y :: ys => by
    have ih := lexI_le xs ys
    simp only [lexI]
    by_cases h : x = y
    · subst h
      rw [if_pos rfl, ← ih]
      simp [List.cons_le_cons_iff]
    · rw [if_neg h]
      simp [List.cons_le_cons_iff, h]
theorem lexI_tr (a b c : List Int) (h : lexI a b = true) (k : lexI b c = true) : lexI a c = true := by
  rw [← lexI_le, decide_eq_true_eq] at h k ⊢
  exact List.le_trans h k
theorem lexI_tot (a b : List Int) : (lexI a b || lexI b a) = true := by
  rw [← lexI_le, ← lexI_le, Bool.or_eq_true, decide_eq_true_eq, decide_eq_true_eq]
  exact List.le_total a b
theorem dataLe_tups {β : Type} (x : β → List Int) : PySem.W.dataLe false (fun b => PyData.tuple ((x b).map PyData.int)) = fun p q => lexI (x p) (x q) := by
  have e := PySem.W.dataLe_rows x
  have e2 : PySem.W.dataLe false (fun b => PyData.tuple ((x b).map PyData.int)) = PySem.W.dataLe false (fun b => PyData.list ((x b).map PyData.int)) := by
    funext p q
    rw [PySem.W.dataLe_eq, PySem.W.dataLe_eq]
    show (!PySem.W.dataLt _ _) = (!PySem.W.dataLt _ _)
    rw [PySem.W.dataLt_tuple, PySem.W.dataLt_list]
  rw [e2, e]
  funext p q
  exact lexI_le _ _

/-! ### what is iterated -/
inductive SrcW (K : PySem.W.Frag) (H : Hp) : V → (List V → Prop) → Prop
  | lst {a : Addr} {xs : List V} (h : SqL K H a xs) : SrcW K H (.ref a) (fun ys => ys = xs)
  | tup {a : Addr} {xs : List V} (h : SqT K H a xs) : SrcW K H (.ref a) (fun ys => ys = xs)
  | dk {a : Addr} {kvs : List (Key × V)} (h : Rd H a (.dK kvs)) : SrcW K H (.ref a) (fun ys => ys = kvs.map fun kv => kV kv.1)
  | dt {a : Addr} {kvs : List (List Key × V)} (h : Rd H a (.dT kvs)) : SrcW K H (.ref a) (fun ys => ∃ bs : List Addr, ys = bs.map V.ref ∧ IsKeys H kvs bs)
def keyA : Key → AV
  | .inl i => .int i
  | .inr s => .str s
def srcOf (st : Sto) (v : AV) : Option (List AV) := match deS st v with
  | some xs => some xs
  | none => match deD st v with
    | some (.k kvs) => some (kvs.map fun kv => keyA kv.1)
    | some (.t kvs) => some (kvs.map fun kv => .tup (kv.1.map keyA))
    | none => none
section
variable {c : MC} {ρ : Rho} {H : Hp} {fr : Fr} {st : Sto} {σ : L2.St}
theorem keyA_ok (k : Key) : VR c ρ H (keyA k) (kV k) := by
  cases k with
  | inl i => exact .int i
  | inr s => exact .str s
theorem keysA_ok : ∀ ks : List Key, VRs c ρ H (ks.map keyA) (ks.map kV)
  | [] => .nil
  | k :: r => .cons (keyA_ok k) (keysA_ok r)
theorem keysK_ok' : ∀ {kvs : List (Key × AV)} {kws : List (Key × V)}, VRk c ρ H kvs kws → VRs c ρ H (kvs.map fun kv => keyA kv.1) (kws.map fun kv => kV kv.1)
  | _, _, .nil => .nil
  | _, _, .cons _ r => .cons (keyA_ok _) (keysK_ok' r)
theorem keysT_ok' : ∀ {kvs : List (List Key × AV)} {kws : List (List Key × V)} {bs : List Addr}, VRt c ρ H kvs kws → IsKeys H kws bs → VRs c ρ H (kvs.map fun kv => AV.tup (kv.1.map keyA)) (bs.map V.ref)
  | _, _, _, .nil, h => by cases h; exact .nil
  | _, _, _, .cons _ r, h => by
    cases h with
    | cons e t => exact .cons (.tup e (keysA_ok _)) (keysT_ok' r t)
theorem srcOf_ok (r : Rep c ρ fr st σ H) {v : AV} {x : V} {avs : List AV} (h : VR c ρ H v x) (e : srcOf st v = some avs) : ∃ P, SrcW c.K H x P ∧ ∀ ys, P ys → VRs c ρ H avs ys := by
  unfold srcOf at e
  split at e
  · rename_i xs hx
    cases e
    obtain ⟨a, vs, rfl, hs, hr⟩ := deS_ok r h hx
    rcases hs with hs | hs
    · exact ⟨_, .lst hs, fun ys ey => ey ▸ hr⟩
    · exact ⟨_, .tup hs, fun ys ey => ey ▸ hr⟩
  · split at e
    · rename_i kvs hd
      cases e
      obtain ⟨a, rfl, kws, h1, h2⟩ := deD_ok r h hd
      exact ⟨_, .dk h1, fun ys ey => ey ▸ keysK_ok' h2⟩
    · rename_i kvs hd
      cases e
      obtain ⟨a, rfl, kws, h1, h2⟩ := deD_ok r h hd
      exact ⟨_, .dt h1, fun ys ⟨bs, ey, hb⟩ => ey ▸ keysT_ok' h2 hb⟩
    · cases e
end
section
variable {X : Cx} {pins : List (Addr × Obj)} {σ : L2.St} {H : Hp} {s : Shared}
theorem collect_src {A : Around} {E : Value → Shared → Prop} {x : V} {u : Value} {P : List V → Prop} {Q : List Value → Shared → Prop} (hh : A.handled = none) (I : Inv X pins σ H s) (r : RelV x u) (w : SrcW X.K H x P)
    (hQ : ∀ (xs : List V) (its : List Value) (h' : Heap) (tk : Nat), P xs → Vals xs its → its.length ≤ sizeLine → (∀ b o, s.heap.get? b = some o → h'.get? b = some o) → Q its { s with heap := h', toks := tk }) : wpAny (model X.prog X.w) A (collect u) Q E s := by
  cases w with
  | @lst a xs h =>
    cases (show u = Value.ref a from r)
    obtain ⟨its, rv, pl, hz⟩ := I.list h
    have hl := rv.length
    refine PyProof.Rows.collect_list pl.isList (hQ xs its _ s.toks rfl rv (by omega) fun b o e => ?_) (by omega)
    rw [Heap.get?_update_other _ _ (Nat.ne_of_gt (Heap.lt_size e))]
    exact Heap.get?_push_of_some _ e
  | @tup a xs h =>
    cases (show u = Value.ref a from r)
    obtain ⟨its, rv, ⟨o, ho, hc, n, hd⟩, hz⟩ := I.tuple h
    have hl := rv.length
    refine wpAny_collect_seq a (.inr rfl) ho hc hd (fun h' hk => ?_) (by rw [List.size_toArray]; omega)
    have e : its.toArray.toList = its := by simp
    rw [e]
    exact hQ xs its h' s.toks rfl rv (by omega) hk
  | @dk a kvs h =>
    cases (show u = Value.ref a from r)
    obtain ⟨z, lo, vs, rel, dd⟩ := dk_rd I.hok h
    obtain ⟨ep, hat⟩ := dd.dictAt
    have hl := rel.length
    refine PySem.W.kdu_collect (PySem.W.kdl_dict (knd := mixKind X.prog X.w) (kvs := vs) (ep := ep) lo) hh hat (by omega) fun h' tk acc hk hacc => ?_
    have hal : acc.toList.length = vs.length := by rw [Array.length_toList, hacc.1]
    have rv := keys_at (us := acc.toList) (vs := vs) hal fun j v e => by
      obtain ⟨k, x, e1, e2⟩ := hacc.2 j v (by rw [← Array.getElem?_toList]; exact e)
      exact ⟨k, x, e1, e2⟩
    have ek : (vs.map fun p => kV p.1) = kvs.map fun kv => kV kv.1 := by
      have := congrArg (List.map kV) rel.keys
      rw [List.map_map, List.map_map] at this
      exact this.symm
    rw [ek] at rv
    exact hQ _ acc.toList h' tk rfl rv (by omega) hk
  | @dt a kvs h =>
    cases (show u = Value.ref a from r)
    obtain ⟨z, hs, ks, pr, o, es, ep, ho, hx, hdt, he, hn⟩ := (show ObjOk X.prog X.w H s.heap a (.dT kvs) from h.ok I.hok)
    have l1 : es.size = ks.length := size_of_entries he
    have l2 : kvs.length = ks.length := Paired.length pr
    refine PySem.W.kdu_collect (kdl_raw hs hx hdt) hh ho (by omega) fun h' tk acc hk it => ?_
    have hal : acc.toList.length = ks.length := by rw [Array.length_toList, it.1]; exact l1
    have ea : acc.toList = (ks.map fun x => x.2.1).map Value.ref := by
      rw [List.map_map]
      refine List.ext_getElem? fun j => ?_
      rw [List.getElem?_map]
      cases hj : acc.toList[j]? with
      | none =>
        have := List.getElem?_eq_none_iff.mp hj
        rw [List.getElem?_eq_none (by omega)]
        rfl
      | some v =>
        obtain ⟨en, hen, hv⟩ := it.2 j v (by rw [← Array.getElem?_toList]; exact hj)
        have q := entry_at he j
        rw [hen] at q
        cases hb : ks[j]? with
        | none => rw [hb] at q; cases q
        | some b =>
          rw [hb] at q
          have e2 : en = entryOfKey (tupleKind (mixKind X.prog X.w)) b := Option.some.inj q
          rw [hv, e2]
          rfl
    refine hQ _ acc.toList h' tk ⟨_, rfl, isKeys_of pr⟩ (by rw [ea]; exact vals_refs _) (by omega) hk
theorem depth_ints (ks : List Int) : (PyData.tuple (ks.map PyData.int)).depth ≤ 2 := by
  have h : ∀ ks : List Int, PyData.depthAll (ks.map PyData.int) = 0 := fun ks => by
    induction ks with
    | nil => rfl
    | cons k r ih => simp only [List.map_cons, PyData.depthAll, PyData.depth, ih, Nat.max_self]
  simp only [PyData.depth, h]
  omega
theorem reads_ints {h : Heap} : ∀ {vs : List Value} {ks : List Int} {as : List Addr}, ReadsAll h vs (ks.map PyData.int) as → as = []
  | _, [], _, r => by cases r; rfl
  | _, k :: ks, _, r => by
    cases r with
    | cons a b =>
      cases a
      rw [reads_ints b]
      rfl
theorem reads_tup {h : Heap} {v : Value} {ks : List Int} {as : List Addr} (r : Reads h v (.tuple (ks.map PyData.int)) as) : as = [] := by
  cases r with
  | tuple _ _ _ q => exact reads_ints q
theorem alike_ints (f : Int → PyData) (hf : ∀ i j, PySem.W.alike (f i) (f j) = true) : ∀ a b : List Int, PySem.W.alikeAll (a.map f) (b.map f) = true
  | [], _ => by simp [PySem.W.alikeAll]
  | x :: xs, [] => by simp [PySem.W.alikeAll]
  | x :: xs, y :: ys => by simp [PySem.W.alikeAll, hf, alike_ints f hf xs ys]
theorem each_of {α β : Type} {R : α → β → Prop} : ∀ {as : List α} {bs : List β}, as.length = bs.length → (∀ (i : Nat) a b, as[i]? = some a → bs[i]? = some b → R a b) → PySem.W.EachIs R as bs
  | [], [], _, _ => .nil
  | a :: as, b :: bs, hl, h => .cons (h 0 a b rfl rfl) (each_of (by simpa using hl) fun i x y e1 e2 => h (i + 1) x y (by simpa using e1) (by simpa using e2))
theorem vals_each {α : Type} (f : α → V) : ∀ {us : List Value} {bs : List α}, PySem.W.EachIs (fun v b => RelV (f b) v) us bs → Vals (bs.map f) us
  | _, _, .nil => .nil
  | _, _, .cons h t => .cons h (vals_each f t)
/-- sorted(x): rows of ints -/
def rSortT (K : PySem.W.Frag) : List V → Hp → VK → Prop := fun vs H Q => ∃ x P, vs = [x] ∧ SrcW K H x P ∧ ∀ xs, P xs → ∃ ks : List (List Int), xs.length = ks.length ∧ (∀ (i : Nat) x k, xs[i]? = some x → ks[i]? = some k → k ≠ [] ∧ Dp K H x (.tuple (k.map .int))) ∧
  ∀ ys p, ys = ((xs.zip ks).mergeSort (fun p q => lexI p.2 q.2)).map (·.1) → H p = none → Q (.ref p) (upd H p (.lst ys))
theorem cr_sortT (hc : X.calm = true) (hu : X.A.units + 65 < cLine) : CallR X (.builtin "sorted") (rSortT X.K) := fun pins s σ H vs us Q I r h => by
  obtain ⟨x, P, rfl, w, h⟩ := h
  obtain ⟨u, rfl, rx⟩ := r.one
  refine Calls.call_function_entry PyProof.Rows.kind_sorted PyProof.Rows.plain_sorted PyProof.Rows.entry_sorted (PyProof.Rows.args_sorted1 _) ?_
  unfold Builtin.«sorted»
  refine wpAny_bind (m := checkCount "sorted" 1 1 _) (wpAny_pure ?_)
  refine wpAny_bind (collect_src (A := X.A.in1) (I.ok.hd hc) I rx w fun xs its h' tk hP rv hL kp => ?_)
  obtain ⟨ks, hlen, hk, q⟩ := h xs hP
  have hl := rv.length
  have I1 : Inv X pins σ H { s with heap := h', toks := tk } := I.kept kp
  refine wpAny_bind (wpAny_newList ?_ hL)
  have hoL : (h'.push (seqObj "list" its.toArray 0)).get? h'.objs.size = some (seqObj "list" its.toArray 0) := Heap.get?_push_size _ rfl
  have I2 : Inv X pins σ H { s with heap := h'.push (seqObj "list" its.toArray 0), toks := tk } := I1.kept (t' := tk) fun b o e => Heap.get?_push_of_some _ e
  show wpAny _ _ _ _ _ { s with heap := h'.push (seqObj "list" its.toArray 0), toks := tk }
  have hz : (xs.zip ks).length = xs.length := by rw [List.length_zip]; omega
  have at_ : ∀ {i : Nat} {v : Value} {b : V × List Int}, its[i]? = some v → (xs.zip ks)[i]? = some b → RelV b.1 v ∧ b.2 ≠ [] ∧ Dp X.K H b.1 (.tuple (b.2.map .int)) := fun {i v b} e1 e2 => by
    rw [List.getElem?_zip_eq_some] at e2
    obtain ⟨v', e3, e4⟩ := rv.get e2.1
    rw [e1] at e3
    cases e3
    exact ⟨e4, hk i _ _ e2.1 e2.2⟩
  have e0 : PySem.W.EachIs (fun v (b : V × List Int) => RelV b.1 v) its (xs.zip ks) := each_of (by omega) fun i v b e1 e2 => (at_ e1 e2).1
  have er : PySem.W.EachIs (fun v (b : V × List Int) => ∃ as, Reads (h'.push (seqObj "list" its.toArray 0)) v (PyData.tuple (b.2.map PyData.int)) as ∧ h'.objs.size ∉ as) its (xs.zip ks) := each_of (by omega) fun i v b e1 e2 => by
    obtain ⟨h1, h2, h3⟩ := at_ e1 e2
    obtain ⟨as, ra⟩ := Dp.reads I2 _ _ _ h3 h1
    exact ⟨as, ra, by rw [reads_tup ra]; simp⟩
  refine wpAny_bind (wpAny_holding (PySem.W.list_sort_data (A := X.A.in1) (s := { s with heap := h'.push (seqObj "list" its.toArray 0), toks := tk }) (enc := fun b : V × List Int => PyData.tuple (b.2.map PyData.int)) hoL e0 er ?_ ?_ (by omega) ?_ fun out ho eo => ?_))
  · intro d hd d' hd'
    obtain ⟨b, _, rfl⟩ := List.mem_map.mp hd
    obtain ⟨b', _, rfl⟩ := List.mem_map.mp hd'
    exact alike_ints PyData.int (fun _ _ => by simp [PySem.W.alike]) _ _
  · refine .inl fun d hd => ?_
    obtain ⟨b, hb, rfl⟩ := List.mem_map.mp hd
    obtain ⟨i, hi⟩ := List.getElem?_of_mem hb
    obtain ⟨v, hv⟩ : ∃ v, its[i]? = some v := by
      have := (List.getElem?_eq_some_iff.mp hi).1
      exact ⟨its[i]'(by omega), List.getElem?_eq_getElem _⟩
    obtain ⟨_, ne, _⟩ := at_ hv hi
    cases hb2 : b.2 with
    | nil => exact absurd hb2 ne
    | cons z zs => exact ⟨.int z, zs.map .int, rfl⟩
  · intro b hb
    have := depth_ints b.2
    show X.A.units + 1 + 1 + _ < cLine
    omega
  · obtain ⟨e', he'⟩ := PyProof.Rows.sortedHeap_at (vs := its) (out := List.toArray out) hoL
    rw [dataLe_tups (fun b : V × List Int => b.2)] at eo
    have rv2 := vals_each (fun b : V × List Int => b.1) eo
    have hzl : (((xs.zip ks).mergeSort fun p q => lexI p.2 q.2).map fun b => b.1).length ≤ sizeLine := by rw [List.length_map, List.length_mergeSort]; omega
    refine wpAny_pure ⟨_, rfl, .ref h'.objs.size, upd H h'.objs.size (.lst (((xs.zip ks).mergeSort fun p q => lexI p.2 q.2).map fun b => b.1)), I1.laid (t' := tk) (fun b u e => ?_) (Nat.le_refl _)
      (show ObjOk X.prog X.w _ _ _ (.lst _) from ⟨hzl, out, e', rv2, he'⟩), rfl, q _ _ rfl (I1.hok.fresh (Nat.le_refl _))⟩
    have hb : b < h'.objs.size := Heap.lt_size e
    rw [PyProof.Rows.sortedHeap_old (Nat.ne_of_lt hb) (by rw [size_push']; exact Nat.lt_succ_of_lt hb)]
    exact Heap.get?_push_of_some _ e
/-- sorted(x, key=abs): ints by their size -/
def rSortA (K : PySem.W.Frag) : V → Hp → VK → Prop := fun x H Q => ∃ P, SrcW K H x P ∧ ∀ xs, P xs → ∃ ks : List Int, xs = ks.map V.int ∧ ∀ p, H p = none → Q (.ref p) (upd H p (.lst ((ks.mergeSort fun a b => decide ((a.natAbs : Int) ≤ (b.natAbs : Int))).map V.int)))
theorem sortA_run (hc : X.calm = true) (hu : X.A.units + 65 < cLine) {x : V} {u : Value} {Q : VK} (I : Inv X pins σ H s) (rx : RelV x u) (h : rSortA X.K x H Q) : wpAny (model X.prog X.w) X.A (call (.builtin "sorted") [u] [(Str.ofString "key", .builtin "abs")]) (EP X pins σ Q) X.xe s := by
  obtain ⟨P, w, h⟩ := h
  refine PyProof.Rows.call_function_entry_kw PyProof.Rows.kind_sorted PyProof.Rows.plain_sorted PyProof.Rows.entry_sorted (PyProof.Rows.ksk_s1 _ _) ?_
  unfold Builtin.«sorted»
  refine wpAny_bind (m := checkCount "sorted" 1 1 _) (wpAny_pure ?_)
  refine wpAny_bind (collect_src (A := X.A.in1) (I.ok.hd hc) I rx w fun xs its h' tk hP rv hL kp => ?_)
  obtain ⟨ks, rfl, q⟩ := h xs hP
  have hl := rv.length
  rw [List.length_map] at hl
  have I1 : Inv X pins σ H { s with heap := h', toks := tk } := I.kept kp
  refine wpAny_bind (wpAny_newList ?_ hL)
  have hoL : (h'.push (seqObj "list" its.toArray 0)).get? h'.objs.size = some (seqObj "list" its.toArray 0) := Heap.get?_push_size _ rfl
  show wpAny _ _ _ _ _ { s with heap := h'.push (seqObj "list" its.toArray 0), toks := tk }
  have e0 : PySem.W.EachIs (fun v (b : Int) => RelV (.int b) v) its ks := each_of (by omega) fun i v b e1 e2 => by
    obtain ⟨v', e3, e4⟩ := rv.get (i := i) (x := .int b) (by rw [List.getElem?_map, e2]; rfl)
    rw [e1] at e3
    cases e3
    exact e4
  have key : ∀ b : Int, (if b < 0 then -b else b) = (b.natAbs : Int) := fun b => by split <;> omega
  refine wpAny_bind (wpAny_holding (PySem.W.list_sort_key_data (A := X.A.in1) (s := { s with heap := h'.push (seqObj "list" its.toArray 0), toks := tk }) (f := .builtin "abs") (b := false) (fun b : Int => PyData.int (b.natAbs : Int)) hoL e0 ?_ ?_ (by omega) ?_ (PyProof.Rows.ksk_l1 _ _) (PyProof.Rows.ksk_t4 _ _) ?_ fun out c h2 tk2 kp2 ho2 hl2 eo => ?_))
  · intro d hd d' hd'
    obtain ⟨b, _, rfl⟩ := List.mem_map.mp hd
    obtain ⟨b', _, rfl⟩ := List.mem_map.mp hd'
    simp [PySem.W.alike]
  · refine .inr fun d hd => ?_
    obtain ⟨b, _, rfl⟩ := List.mem_map.mp hd
    exact ⟨(fun z => nomatch z), fun xs z => nomatch z⟩
  · intro b hb
    show X.A.units + 1 + 1 + PyData.depth (.int _) < cLine
    simp only [PyData.depth]
    omega
  · intro v b hv hb h3 tk3 k3
    obtain ⟨t, rfl⟩ := hv
    refine call_abs_int fun t2 tk4 => ⟨h3, tk4, rfl, fun b o e => e, ?_⟩
    rw [key]
    exact .int _ _
  · have dl : PySem.W.dataLe false (fun b : Int => PyData.int (b.natAbs : Int)) = fun a b => decide ((a.natAbs : Int) ≤ (b.natAbs : Int)) := PySem.W.dataLe_int fun b : Int => (b.natAbs : Int)
    rw [dl] at eo
    have rv2 := vals_each (fun b : Int => V.int b) eo
    have hzl : ((ks.mergeSort fun a b => decide ((a.natAbs : Int) ≤ (b.natAbs : Int))).map fun b => V.int b).length ≤ sizeLine := by rw [List.length_map, List.length_mergeSort]; omega
    refine wpAny_pure ⟨_, rfl, .ref h'.objs.size, upd H h'.objs.size (.lst ((ks.mergeSort fun a b => decide ((a.natAbs : Int) ≤ (b.natAbs : Int))).map V.int)), I1.laid (t' := tk2) (h' := h2) (fun b u e => ?_) (Nat.le_refl _)
      (show ObjOk X.prog X.w _ _ _ (.lst _) from ⟨hzl, out, c, rv2, ho2⟩), rfl, q _ (I1.hok.fresh (Nat.le_refl _))⟩
    exact kp2 b u (Nat.ne_of_lt (Heap.lt_size e)) (Heap.get?_push_of_some _ e)
end
section
variable {X : Cx} {e : Expr} {te : TE} {p p2 p3 pos : Pos}
theorem pe_sortA (hc : X.calm = true) (hu : X.A.units + 65 < cLine) (hg : Gl X "sorted") (hm : X.mg "sorted" = none) (hg2 : Gl X "abs") (hm2 : X.mg "abs" = none) (he : PE X e te)
    (hst : starEach [e] X.env = (false, eval e X.env) :: starEach [] X.env := by rfl) (h1 : backTo pos (starEach [e] X.env) = (false, eval e X.env) :: backTo pos (starEach [] X.env) := by rfl) (hpl : (backTo pos (starEach [e] X.env)).any (·.1) = false := by rfl)
    (hkw : (backToKw pos (keywordEach [⟨some (Str.ofString "key"), .Name "abs" p2, p3⟩] X.env)) = [(some (Str.ofString "key"), do let v ← eval (.Name "abs" p2) X.env; standAt pos; pure v)] := by rfl) :
    PE X (.Call (.Name "sorted" p) [e] [⟨some (Str.ofString "key"), .Name "abs" p2, p3⟩] pos) (fun σ H Q => te σ H fun x H1 => rSortA X.K x H1 Q) := ⟨fun pins s σ H Q I h => by
  refine wpAny_Call_Name_kw (ld_blt I hg hm PyProof.Rows.boot_sorted ?_)
  have ha := (pa_cons he pa_nil hst).run pos pins s σ H (fun vs H1 => match vs with
    | [x] => rSortA X.K x H1 Q
    | _ => False) I h
  refine PyProof.Rows.callWith_kw (thn ha fun us s1 hv => ?_) h1 hpl (by rw [hkw]; rfl) (by rw [hkw]; rfl)
  obtain ⟨vs, H1, I1, r1, q⟩ := hv
  obtain ⟨x, rfl⟩ : ∃ x, vs = [x] := by
    match vs, q with
    | [x], _ => exact ⟨x, rfl⟩
  obtain ⟨u, rfl, rx⟩ := r1.one
  rw [hkw]
  show wpAny _ _ (evalAll [do let v ← eval (.Name "abs" p2) X.env; standAt pos; pure v]) _ _ _
  refine wpAny_evalAll_cons (wpAny_bind (ld_blt I1 hg2 hm2 boot_abs (wpAny_bind (wpAny_standAt (wpAny_pure (wpAny_evalAll_nil ?_))))))
  exact sortA_run hc hu I1 rx q⟩
end
end MM
set_option Elab.async false
set_option linter.all false
set_option maxRecDepth 100000
set_option maxHeartbeats 4000000
/-! The mirror's built-ins. -/
namespace MM
open PySem PySem.Spec PyProof.Rows L2

/-! ### sorted -/
def intsOf : List AV → Option (List Int)
  | [] => some []
  | x :: r => match x with
    | .int i => (match intsOf r with
      | some is => some (i :: is)
      | none => none)
    | _ => none
/-- a tuple of ints, not empty -/
def tupKey : AV → Option (List Int)
  | .tup xs => match intsOf xs with
    | some (i :: r) => some (i :: r)
    | _ => none
  | .ktup xs => match intsOf xs with
    | some (i :: r) => some (i :: r)
    | _ => none
  | _ => none
def tupKeys : List AV → Option (List (List Int))
  | [] => some []
  | x :: r => match tupKey x, tupKeys r with
    | some k, some ks => some (k :: ks)
    | _, _ => none
def sortT (avs : List AV) (ks : List (List Int)) : List AV := (isort (fun p q => lexI p.2 q.2) (avs.zip ks)).map (·.1)
def absLe (a b : Int) : Bool := decide ((a.natAbs : Int) ≤ (b.natAbs : Int))
section
variable {c : MC} {ρ : Rho} {H : Hp}
theorem intsOf_ok : ∀ {xs : List AV} {vs : List V} {is : List Int}, VRs c ρ H xs vs → intsOf xs = some is → vs = is.map V.int ∧ xs = is.map AV.int
  | _, _, _, .nil, e => by simp only [intsOf, Option.some.injEq] at e; subst e; exact ⟨rfl, rfl⟩
  | x :: r, v :: vs, is, .cons h t, e => by
    simp only [intsOf] at e
    split at e
    · rename_i i
      split at e
      · rename_i js hj
        cases e
        cases h
        obtain ⟨e1, e2⟩ := intsOf_ok t hj
        subst e1 e2
        exact ⟨rfl, rfl⟩
      · cases e
    · cases e
theorem pds_ints : ∀ is : List Int, pds (is.map AV.int) = some (is.map PyData.int)
  | [] => rfl
  | i :: r => by simp [pds, pd, pds_ints r]
theorem tupKey_ok {x : AV} {v : V} {k : List Int} (h : VR c ρ H x v) (e : tupKey x = some k) : k ≠ [] ∧ Dp c.K H v (.tuple (k.map .int)) := by
  cases h with
  | tup hh hr =>
    simp only [tupKey] at e
    split at e
    · rename_i i r hi
      cases e
      obtain ⟨e1, e2⟩ := intsOf_ok hr hi
      subst e2
      refine ⟨by simp, pd_ok (.tup hh hr) ?_⟩
      simp only [pd, pds_ints]
    · cases e
  | ktup hh hr =>
    simp only [tupKey] at e
    split at e
    · rename_i i r hi
      cases e
      obtain ⟨e1, e2⟩ := intsOf_ok hr hi
      subst e2
      refine ⟨by simp, pd_ok (.ktup hh hr) ?_⟩
      simp only [pd, pds_ints]
    · cases e
  | _ => simp [tupKey] at e
theorem tupKeys_ok : ∀ {xs : List AV} {vs : List V} {ks : List (List Int)}, VRs c ρ H xs vs → tupKeys xs = some ks → vs.length = ks.length ∧ ∀ (i : Nat) v k, vs[i]? = some v → ks[i]? = some k → k ≠ [] ∧ Dp c.K H v (.tuple (k.map .int))
  | _, _, _, .nil, e => by simp only [tupKeys, Option.some.injEq] at e; subst e; exact ⟨rfl, fun i v k h => by simp at h⟩
  | _, _, _, .cons h t, e => by
    simp only [tupKeys] at e
    split at e
    · rename_i k ks h1 h2
      cases e
      obtain ⟨e1, e2⟩ := tupKeys_ok t h2
      refine ⟨by simp [e1], fun i v k' hv hk => ?_⟩
      cases i with
      | zero =>
        simp at hv hk
        subst hv hk
        exact tupKey_ok h h1
      | succ i => exact e2 i v k' (by simpa using hv) (by simpa using hk)
    · cases e
theorem VRs.zip_mem : ∀ {xs : List AV} {vs : List V}, VRs c ρ H xs vs → ∀ p ∈ xs.zip vs, VR c ρ H p.1 p.2
  | _, _, .nil, p, h => by simp at h
  | _, _, .cons h t, p, hp => by
    rcases List.mem_cons.mp (show p ∈ (_, _) :: _ from hp) with e | hp
    · subst e; exact h
    · exact VRs.zip_mem t p hp
theorem zip_l {α β γ : Type} : ∀ (xs : List α) (ys : List β) (zs : List γ), xs.length = ys.length → ((xs.zip ys).zip zs).map (fun t => (t.1.1, t.2)) = xs.zip zs
  | [], _, _, _ => rfl
  | x :: xs, [], _, h => by simp at h
  | x :: xs, y :: ys, [], _ => rfl
  | x :: xs, y :: ys, z :: zs, h => by simp [zip_l xs ys zs (by simpa using h)]
theorem zip_r {α β γ : Type} : ∀ (xs : List α) (ys : List β) (zs : List γ), xs.length = ys.length → ((xs.zip ys).zip zs).map (fun t => (t.1.2, t.2)) = ys.zip zs
  | [], [], _, _ => rfl
  | [], _ :: _, _, h => by simp at h
  | x :: xs, [], _, h => by simp at h
  | x :: xs, y :: ys, [], _ => rfl
  | x :: xs, y :: ys, z :: zs, h => by simp [zip_r xs ys zs (by simpa using h)]
theorem sortT_ok {xs : List AV} {vs : List V} (h : VRs c ρ H xs vs) (ks : List (List Int)) : VRs c ρ H (sortT xs ks) (((vs.zip ks).mergeSort fun p q => lexI p.2 q.2).map (·.1)) := by
  have e1 : sortT xs ks = ((xs.zip ks).mergeSort fun p q => lexI p.2 q.2).map (·.1) := by
    unfold sortT
    rw [isort_eq (le := fun p q : AV × List Int => lexI p.2 q.2) (fun a b c => lexI_tr _ _ _) (fun a b => lexI_tot _ _)]
  have m1 : ((xs.zip ks).mergeSort fun p q => lexI p.2 q.2) = (((xs.zip vs).zip ks).mergeSort fun p q => lexI p.2 q.2).map fun t => (t.1.1, t.2) := by
    rw [List.map_mergeSort (s := fun p q : AV × List Int => lexI p.2 q.2) (fun a _ b _ => rfl), zip_l xs vs ks h.len]
  have m2 : ((vs.zip ks).mergeSort fun p q => lexI p.2 q.2) = (((xs.zip vs).zip ks).mergeSort fun p q => lexI p.2 q.2).map fun t => (t.1.2, t.2) := by
    rw [List.map_mergeSort (s := fun p q : V × List Int => lexI p.2 q.2) (fun a _ b _ => rfl), zip_r xs vs ks h.len]
  rw [e1, m1, m2, List.map_map, List.map_map]
  refine VRs.map _ fun t ht => ?_
  have ht' := List.mem_mergeSort.mp ht
  exact VRs.zip_mem h t.1 (List.of_mem_zip ht').1
end
def sortTM : List AV → M AV := fun vs st => match vs with
  | [v] => (match srcOf st v with
    | some avs => (match tupKeys avs with
      | some ks => .ok (.lst (sortT avs ks)) st
      | none => .stuck)
    | none => .stuck)
  | _ => .stuck
/-- a new list by value -/
theorem newLst {c : MC} {W : WX} {ρ : Rho} {fr : Fr} {st : Sto} {σ : L2.St} {H : Hp} {Q : VK} {avs : List AV} {ys : List V} {p : Addr} (r : Rep c ρ fr st σ H) (q : VRs c ρ H avs ys) (hp : H p = none) (h : Pst c W ρ fr σ H (PV c Q) (.ok (.lst avs) st)) : Q (.ref p) (upd H p (.lst ys)) :=
  h ρ _ (Stp.tmp hp) (r.tmp hp) _ (.lst (.inl upd_same) (r.notin hp) (q.mono (Stp.tmp hp)))
theorem newTup {c : MC} {W : WX} {ρ : Rho} {fr : Fr} {st : Sto} {σ : L2.St} {H : Hp} {Q : VK} {avs : List AV} {ys : List V} {p : Addr} (r : Rep c ρ fr st σ H) (q : VRs c ρ H avs ys) (hp : H p = none) (h : Pst c W ρ fr σ H (PV c Q) (.ok (.tup avs) st)) : Q (.ref p) (upd H p (.tup ys)) :=
  h ρ _ (Stp.tmp hp) (r.tmp hp) _ (.tup upd_same (q.mono (Stp.tmp hp)))
section
variable {X : Cx} {G : String → Option Addr} {W : WX} {e a b : Expr} {es : List Expr} {pos p p2 p3 : Pos} {ma mb : Fr → M AV}
theorem ol_sortT : OpL X G W (rSortT X.K) sortTM := fun xs σ H Q q => by
  obtain ⟨ρ, fr, st, avs, r, hv, p⟩ := q.unL
  unfold sortTM at p
  split at p
  · rename_i v
    cases hv with
    | cons h t =>
      cases t
      split at p
      · rename_i avs hs
        split at p
        · rename_i ks hk
          obtain ⟨P, w, hP⟩ := srcOf_ok r h hs
          refine ⟨_, P, rfl, w, fun ys hy => ?_⟩
          have hr := hP ys hy
          obtain ⟨k1, k2⟩ := tupKeys_ok hr hk
          refine ⟨ks, k1, k2, fun zs p' ez hp => ?_⟩
          subst ez
          exact newLst r (sortT_ok hr ks) hp p
        · exact p.elim
      · exact p.elim
  · exact p.elim
def sortAM : AV → M AV := fun v st => match srcOf st v with
  | some avs => (match intsOf avs with
    | some ks => .ok (.lst ((isort absLe ks).map .int)) st
    | none => .stuck)
  | none => .stuck
theorem o_sortA : Op1 X G W (rSortA X.K) sortAM := fun x σ H Q q => by
  obtain ⟨ρ, fr, st, v, r, hv, p⟩ := q.un1
  unfold sortAM at p
  split at p
  · rename_i avs hs
    split at p
    · rename_i ks hk
      obtain ⟨P, w, hP⟩ := srcOf_ok r hv hs
      refine ⟨P, w, fun ys hy => ?_⟩
      obtain ⟨e1, e2⟩ := intsOf_ok (hP ys hy) hk
      refine ⟨ks, e1, fun p' hp => ?_⟩
      have em : (ks.mergeSort fun a b => decide ((a.natAbs : Int) ≤ (b.natAbs : Int))) = isort absLe ks := isort_eq (le := absLe) (fun a b c h k => by
        simp only [absLe, decide_eq_true_eq] at h k ⊢
        omega) (fun a b => by
        simp only [absLe, Bool.or_eq_true, decide_eq_true_eq]
        omega) ks
      rw [em]
      exact newLst r (VRs.map _ fun _ _ => .int _) hp p
    · exact p.elim
  · exact p.elim
theorem me_sortA (hc : X.calm = true) (hu : X.A.units + 65 < cLine) (hm : X.mg "sorted" = none) (hm2 : X.mg "abs" = none) (he : ME X G W e ma) (hg : Gl X "sorted" := by rfl) (hg2 : Gl X "abs" := by rfl)
    (hst : starEach [e] X.env = (false, eval e X.env) :: starEach [] X.env := by rfl) (h1 : backTo pos (starEach [e] X.env) = (false, eval e X.env) :: backTo pos (starEach [] X.env) := by rfl) (hpl : (backTo pos (starEach [e] X.env)).any (·.1) = false := by rfl)
    (hkw : (backToKw pos (keywordEach [⟨some (Str.ofString "key"), .Name "abs" p2, p3⟩] X.env)) = [(some (Str.ofString "key"), do let v ← eval (.Name "abs" p2) X.env; standAt pos; pure v)] := by rfl) :
    ME X G W (.Call (.Name "sorted" p) [e] [⟨some (Str.ofString "key"), .Name "abs" p2, p3⟩] pos) (m1 sortAM ma) := pe_imp (pe_sortA hc hu hg hm hg2 hm2 he hst h1 hpl hkw) fun σ H Q q => t1 o_sortA q

/-! ### isinstance -/
def tyName (st : Sto) : AV → Option String
  | .non => some "NoneType"
  | .bl _ => some "bool"
  | .int _ => some "int"
  | .str _ => some "str"
  | .tup _ => some "tuple"
  | .ktup _ => some "tuple"
  | .lst _ => some "list"
  | .dk _ => some "dict"
  | .ptr n => match st[n]? with
    | some (.lst _) => some "list"
    | some (.dk _) => some "dict"
    | some (.dt _) => some "dict"
    | _ => none
  | _ => none
def isiM : List AV → M AV := fun vs st => match vs with
  | [v, .ty u] => (match tyName st v with
    | some t => (match kitB t u with
      | some b => .ok (.bl b) st
      | none => .stuck)
    | none => .stuck)
  | _ => .stuck
theorem tyName_ok {c : MC} {ρ : Rho} {H : Hp} {fr : Fr} {st : Sto} {σ : L2.St} (r : Rep c ρ fr st σ H) {v : AV} {x : V} {t : String} (h : VR c ρ H v x) (e : tyName st v = some t) : TyX c.K H x (.type t) := by
  cases h with
  | non => cases e; exact .base .non
  | bl b => cases e; exact .base (.bl b)
  | int b => cases e; exact .base (.int b)
  | str b => cases e; exact .base (.str b)
  | tup h q => cases e; exact .base (.tup h)
  | ktup h q => cases e; obtain ⟨o, its, n, e1, e2, _⟩ := h; exact .kTuple e1 e2
  | lst h n q =>
    cases e
    rcases h with h | ⟨o, h⟩
    · exact .base (.lst h)
    · exact .base (.frz h)
  | dk h n q =>
    cases e
    rcases h with h | ⟨o, h⟩
    · exact .base (.dK h)
    · exact .fDict h
  | @ptr n a hp =>
    simp only [tyName] at e
    split at e
    · rename_i xs hx
      cases e
      obtain ⟨b, u, e1, e2, e3⟩ := r.ob n _ hx
      rw [hp] at e1
      cases e1
      cases e3
      exact .base (.lst e2)
    · rename_i xs hx
      cases e
      obtain ⟨b, u, e1, e2, e3⟩ := r.ob n _ hx
      rw [hp] at e1
      cases e1
      cases e3
      exact .base (.dK e2)
    · rename_i xs hx
      cases e
      obtain ⟨b, u, e1, e2, e3⟩ := r.ob n _ hx
      rw [hp] at e1
      cases e1
      cases e3
      exact .base (.dT e2)
    · cases e
  | _ => simp [tyName] at e
theorem ol_isi : OpL X G W (rIsi X.K) isiM := fun xs σ H Q q => by
  obtain ⟨ρ, fr, st, avs, r, hv, p⟩ := q.unL
  unfold isiM at p
  split at p
  · rename_i v u
    split at p
    · rename_i t ht
      split at p
      · rename_i b hb
        cases hv with
        | cons h t =>
          cases t with
          | cons h' t =>
            cases t
            cases h'
            exact ⟨_, _, _, _, b, rfl, .ty u, tyName_ok r h ht, kit_ty hb, p ρ H (Stp.refl _ _) r _ (.bl _)⟩
      · exact p.elim
    · exact p.elim
  · exact p.elim
theorem pe_bty {T : String} {x : Str} (hg : Gl X x) (hm : X.mg x = none) (hv : bootBuiltins x = some (.type T)) (hn : x ≠ "__name__" := by decide) (hd : (x == ("__debug__" : Str)) = false := by decide) : PE X (.Name x pos) (tC (.ty T)) :=
  ⟨fun pins s σ H Q I h => ld_blt I hg hm hv ⟨.ty T, H, I, rfl, h⟩ hn hd⟩
theorem me_ty {T : String} {x : Str} (hm : X.mg x = none) (hv : bootBuiltins x = some (.type T)) (hg : Gl X x := by rfl) (hn : x ≠ "__name__" := by decide) (hd : (x == ("__debug__" : Str)) = false := by decide) : ME X G W (.Name x pos) (mC (.ty T)) := me_c (pe_bty hg hm hv hn hd) fun _ _ => .ty _
/-- a module's name -/
theorem me_glob {x : Str} {v : V} {u : Value} {av : AV} (hm : X.mg x = some u) (r : RelV v u) (hv : ∀ ρ H, VR (cx X G) ρ H av v) (hg : Gl X x := by rfl) (hd : (x == ("__debug__" : Str)) = false := by decide) : ME X G W (.Name x pos) (mC av) := me_c (pe_glob hg hm r hd) hv
end
end MM
set_option Elab.async false
set_option linter.all false
set_option maxRecDepth 100000
set_option maxHeartbeats 4000000
/-! The mirror's walks: enumerate, zip, range, a dict's keys. -/
namespace MM
open PySem PySem.Spec PyProof.Rows L2

/-! ### enumerate(a tuple) -/
theorem meets_enum1 {v : Value} {o : Obj} {Hh : Heap → Prop} (B : Begins v o Hh) :
    Meets (Builtin.«enumerate.__new__» ⟨[.type "enumerate", v], []⟩) (fun _ R s => Hh s.heap ∧
      R (.ok (.ret (.ref (s.heap.push o).objs.size))) { s with heap := (s.heap.push o).push { cls := .type "enumerate", data := .fields #[.none, .bool false, .ref s.heap.objs.size, rawInt 0, .none, .none] } }) :=
  .of_wp fun prog w A R s h => by
    obtain ⟨hp, g, d, tk, os⟩ := s; obtain ⟨h1, h⟩ := h
    have hsub := sub_enumerate
    have walked : ∀ {A' : Around} {E : Value → Shared → Prop} {Q : Value → Shared → Prop}, Q (.ref hp.objs.size) ⟨hp.push o, g, d, tk, os⟩ → wpAny (model prog w) A' (pyIter v) Q E ⟨hp, g, d, tk, os⟩ :=
      fun q => B.iter prog w _ _ ⟨hp, g, d, tk, os⟩ _ h1 q
    wp_walk using walked
    refine wpAny_stack_any fun st => wpAny_pure ?_
    split
    · rename_i c _ _ _ _ _
      cases (c == Value.type "enumerate")
      · wp_walk using walked
        exact ⟨_, rfl, h⟩
      · wp_walk using walked
        exact ⟨_, rfl, h⟩
    · wp_walk using walked
      exact ⟨_, rfl, h⟩
theorem call_enumT {prog : Program} {w : World} {A : Around} {E : Value → Shared → Prop} {s : Shared} {v : Value} {o : Obj} {Hh : Heap → Prop} {Q : Value → Shared → Prop} (B : Begins v o Hh) (h1 : Hh s.heap)
    (h : ∀ h', IsEnum h' (s.heap.objs.size + 1) s.heap.objs.size 0 .none → h'.get? s.heap.objs.size = some o → (∀ b o, s.heap.get? b = some o → h'.get? b = some o) → Q (.ref (s.heap.objs.size + 1)) { s with heap := h' }) :
    wpAny (model prog w) A (call (.type "enumerate") [v]) Q E s := by
  refine callType_new F.called_enumerate (by decide) (F.typeCall_enumerate_1 _) (F.newCall_enumerate_1 _) (fun obj => F.args_object_init_2 obj _) F.entry_enumerate_new (meets_enum1 B) ⟨h1, ?_⟩
  have hz : (s.heap.push o).objs.size = s.heap.objs.size + 1 := Heap.size_push ..
  have there := Heap.get?_push_size (s.heap.push o) (o := { cls := .type "enumerate", data := .fields #[.none, .bool false, .ref s.heap.objs.size, rawInt 0, .none, .none] }) rfl
  rw [hz] at there
  show _ ∧ _
  rw [hz]
  exact ⟨⟨_, there, rfl⟩, h _ there (Heap.get?_push_of_some _ (Heap.get?_push_size _ B.free)) fun b o x => Heap.get?_push_of_some _ (Heap.get?_push_of_some _ x)⟩
/-- the tuple at a, each item in a new pair -/
def IteT (K : PySem.W.Frag) (a : Addr) : It :=
  ⟨fun i H => ∃ (xs : List V) (x : V), SqT K H a xs ∧ xs[i]? = some x, fun i H v H' => ∃ T x, v = .ref T ∧ H T = none ∧ H' = upd H T (.tup [.int (i : Nat), x]) ∧ ∀ xs, SqT K H a xs → xs[i]? = some x, fun i H => ∃ xs : List V, SqT K H a xs ∧ xs.length = i⟩
theorem turn_enumT {P : Program} {w : World} {K : PySem.W.Frag} {elts : List Expr} {kk : Nat} {tpos : Pos} (a e it : Addr) (ne : e ≠ it) (na : a ≠ it) (nae : e ≠ a) :
    Turn P w K (.Tuple elts kk tpos) (IteT K a) [e, it] e (fun i h => (∃ old, IsEnum h e it ((i : Nat) : Int) old) ∧ h.IsTupleIter it a i) where
  mem := by simp
  obj := fun i h st b hb => by
    obtain ⟨⟨old, he⟩, o, ho, hc, hd⟩ := st
    rcases List.mem_cons.mp hb with z | z
    · rw [z]; exact ⟨_, he, fun v q => nomatch q⟩
    · rw [List.mem_singleton.mp z]; exact ⟨o, ho, fun v q => by rw [hd] at q; cases q⟩
  keep := fun i h h' st k => let ⟨⟨old, he⟩, hi⟩ := st; ⟨⟨old, k e (by simp) _ he⟩, hi.at fun o q => k it (by simp) o q⟩
  item := by
    intro X hP hw hK hc i pins s σ H E I hf st hg
    subst hP hw hK
    obtain ⟨⟨old, he⟩, hit⟩ := st
    obtain ⟨xs, x, hq, hx⟩ := hg
    obtain ⟨its, rv, pt, hz⟩ := I.tuple hq
    obtain ⟨u, hu, ru⟩ := rv.get hx
    have elt : e < s.heap.objs.size := Heap.lt_size he
    have ilt : it < s.heap.objs.size := by obtain ⟨_, q, _⟩ := hit; exact Heap.lt_size q
    have D := Draws.tuple (prog := X.prog) (w := X.w) (A := X.A.in1) (I.ok.hd hc) it a na its.toArray
    have hlt : i < its.toArray.size := by
      have := (List.getElem?_eq_some_iff.mp hu).1
      simpa using this
    refine wpAny_pyNext_enum_itemD D he ⟨hit, pt⟩ hlt ne (by simp [ne, nae]) fun y h' tk hy ho st2 hT hsz hk => ?_
    have ey : y = u := by
      have : its.toArray[i]? = some u := by simpa using hu
      exact Option.some.inj (hy.symm.trans this)
    subst ey
    refine ⟨_, rfl, wpAny_letOwnedTupleGo_enum (s := { s with heap := h', toks := tk + 1 }) ho fun h'' he' sb => ?_⟩
    have hT2 : h''.get? s.heap.objs.size = some { cls := .type "tuple", data := .seq #[.int i tk, y] } := (sb.2 _ (Nat.ne_of_gt elt)).trans hT
    have new : ObjOk X.prog X.w (upd H s.heap.objs.size (.tup [.int (i : Nat), x])) h'' s.heap.objs.size (.tup [.int (i : Nat), x]) :=
      ⟨by show 2 ≤ sizeLine; decide, [.int i tk, y], .cons ⟨_, rfl⟩ (.cons ru .nil), ⟨_, hT2, rfl, _, rfl⟩⟩
    have fr := I.hok.fresh (a := s.heap.objs.size) (Nat.le_refl _)
    have I1 : Inv X pins σ (upd H s.heap.objs.size (.tup [.int (i : Nat), x])) { s with heap := h'', toks := tk + 1 } :=
      I.turnedNew (ch := [e, it]) (fun b ob hb q => (sb.2 b (fun z => hb (by simp [z]))).trans (hk b ob (fun z => hb (by simp [z])) (fun z => hb (by simp [z])) q)) hf (Nat.le_refl _) new
    refine ⟨.ref s.heap.objs.size, _, I1, rfl, ⟨_, x, rfl, fr, rfl, fun ys hy => by rw [I.tuple_inj hy hq]; exact hx⟩, ⟨⟨y, ?_⟩, st2.1.at fun o q => (sb.2 it (Ne.symm ne)).trans q⟩, fun b hb => ?_⟩
    · have e1 : ((i + 1 : Nat) : Int) = (i : Int) + 1 := by omega
      rw [e1]; exact he'
    · have lt : b < s.heap.objs.size := by
        rcases List.mem_cons.mp hb with z | z
        · rw [z]; exact elt
        · rw [List.mem_singleton.mp z]; exact ilt
      rw [upd_ne (Nat.ne_of_lt lt)]
      exact (hf b hb).1
  done := by
    intro X hP hw hK hc i pins s σ H E I hf st hg
    subst hP hw hK
    obtain ⟨⟨old, he⟩, hit⟩ := st
    obtain ⟨xs, hq, hx⟩ := hg
    obtain ⟨its, rv, pt, hz⟩ := I.tuple hq
    obtain ⟨f0, f1, f2, f3, f4, f5⟩ := hf it (by simp)
    have D := Draws.tuple (prog := X.prog) (w := X.w) (A := X.A.in1) (I.ok.hd hc) it a na its.toArray
    have hn : its.toArray.size = i := by rw [List.size_toArray, ← rv.length, hx]
    exact wpAny_pyNext_enum_endD D he ⟨hn ▸ hit, pt⟩ fun h' eb => ⟨rfl, I.turned (t' := s.toks) (fun b o hb q => eb b o hb q) f0 f1 f3 f4 f5⟩
  self := fun A i s Q E st h => let ⟨⟨_, he⟩, _⟩ := st; wpAny_pyIter_enum he h
section
variable {X : Cx} {tg e e2 : Expr} {ta : TA} {p pos tpos : Pos} {elts : List Expr} {kk : Nat}
def iEnumT (K : PySem.W.Frag) (ta : TA) : TI := fun σ H R => ta σ H fun vs H1 => ∃ a xs, vs = [.ref a] ∧ SqT K H1 a xs ∧ R (IteT K a) H1
theorem pi_enumT (hg : Gl X "enumerate") (hm : X.mg "enumerate" = none) (ha : PA X [e] ta) (hs : starEach [e] X.env = [(false, eval e X.env)] := by rfl) :
    PI X (.Tuple elts kk tpos) (.Call (.Name "enumerate" p) [e] [] pos) (iEnumT X.K ta) := ⟨fun pins s σ H R I h => by
  refine Call_ (ld_blt I hg hm boot_enumerate (PyProof.Rows.callWith_type1 (thn (ha.run pos pins s σ H _ I h) fun us s1 hv => ?_) hs rfl))
  obtain ⟨vs, H1, I1, r1, a, xs, ex, hq, q⟩ := hv
  subst ex
  obtain rfl := Vals.ref1 r1
  obtain ⟨its, rv, pt, hz⟩ := I1.tuple hq
  have pt' := pt
  obtain ⟨oa, hoa, _⟩ := pt'
  have lta : a < s1.heap.objs.size := Heap.lt_size hoa
  refine call_enumT (begins_tuple a its.toArray) pt fun h' he hit hk => wpAny_pyIter_enum he ?_
  have I2 : Inv X pins σ H1 { s1 with heap := h' } := I1.kept (t' := s1.toks) hk
  refine ⟨s1.heap.objs.size + 1, [s1.heap.objs.size + 1, s1.heap.objs.size], _, _, H1, rfl, I2, turn_enumT a (s1.heap.objs.size + 1) s1.heap.objs.size (Nat.succ_ne_self _) (Nat.ne_of_lt lta) (Nat.ne_of_gt (Nat.lt_succ_of_lt lta)), ⟨⟨.none, he⟩, ⟨_, hit, rfl, rfl⟩⟩, fun b hb => ?_, q⟩
  have hle : s1.heap.objs.size ≤ b := by
    rcases List.mem_cons.mp hb with z | z
    · rw [z]; exact Nat.le_succ _
    · rw [List.mem_singleton.mp z]; exact Nat.le_refl _
  exact I1.fpOk hle (I1.hok.fresh hle)⟩
end
section
variable {X : Cx} {G : String → Option Addr} {W : WX} {tg e a b : Expr} {p pos tpos : Pos} {elts : List Expr} {kk : Nat} {ma mb : Fr → M AV}
def pairsA (xs : List AV) (i : Nat) : List AV := match xs with
  | [] => []
  | x :: r => .tup [.int (i : Nat), x] :: pairsA r (i + 1)
theorem pairsA_len : ∀ (xs : List AV) (i : Nat), (pairsA xs i).length = xs.length
  | [], _ => rfl
  | x :: r, i => by simp [pairsA, pairsA_len r]
theorem pairsA_get : ∀ (xs : List AV) (i j : Nat) (v : AV), (pairsA xs i)[j]? = some v → ∃ x, xs[j]? = some x ∧ v = .tup [.int ((i + j : Nat) : Int), x]
  | [], _, _, _, h => by simp [pairsA] at h
  | x :: r, i, 0, v, h => by simp [pairsA] at h; exact ⟨x, rfl, h.symm⟩
  | x :: r, i, j + 1, v, h => by
    obtain ⟨y, e1, e2⟩ := pairsA_get r (i + 1) j v (by simpa [pairsA] using h)
    exact ⟨y, by simpa using e1, by rw [e2]; simp; omega⟩
/-- a list or a tuple by value -/
def deV : AV → Option (Bool × List AV)
  | .tup xs => some (true, xs)
  | .ktup xs => some (true, xs)
  | .lst xs => some (false, xs)
  | _ => none
def mEnum (m : Fr → M AV) : Fr → M Its := fun fr st => (m fr st).bind fun v st1 => match deV v with
  | some (_, xs) => .ok ⟨pairsA xs 0, none⟩ st1
  | none => .stuck
theorem wk_enumT {c : MC} {ρ : Rho} {H : Hp} {a : Addr} {vs : List V} {xs : List AV} (h : SqT c.K H a vs) (ht : ∀ ρ1 H1, Stw ρ H ρ1 H1 → SqT c.K H1 a vs) (r : VRs c ρ H xs vs) : WkM c (IteT c.K a) ⟨pairsA xs 0, none⟩ ρ H := fun i ρ1 H1 s _ => by
  have q := ht ρ1 H1 s
  have r1 := r.monoW s
  have hl := r.len
  refine ⟨fun hi => ?_, fun hi => ⟨vs, q, by rw [hi, pairsA_len, ← hl]⟩⟩
  have hv : i < vs.length := by rw [← hl, ← pairsA_len xs 0]; exact hi
  refine ⟨⟨vs, vs[i], q, List.getElem?_eq_getElem hv⟩, fun x H2 y => ?_⟩
  obtain ⟨T, z, rfl, hT, rfl, y⟩ := y
  refine ⟨.inr ⟨T, _, hT, rfl⟩, fun v hv' => ?_⟩
  obtain ⟨w, e1, e2⟩ := pairsA_get xs 0 i v hv'
  obtain ⟨u, e3, e4⟩ := r1.get e1
  rw [y vs q] at e3
  cases e3
  rw [e2, Nat.zero_add]
  exact .tup upd_same (.cons (.int _) (.cons (e4.mono (Stp.tmp hT)) .nil))
theorem wk_enumL {c : MC} {ρ : Rho} {H : Hp} {a : Addr} {vs : List V} {xs : List AV} (h : Rd H a (.lst vs)) (n : ¬ ρ.has a) (r : VRs c ρ H xs vs) : WkM c (Ite c.K a) ⟨pairsA xs 0, none⟩ ρ H := fun i ρ1 H1 s _ => by
  have q : SqL c.K H1 a vs := .inl (s.rd n h)
  have r1 := r.monoW s
  have hl := r.len
  refine ⟨fun hi => ?_, fun hi => ⟨vs, q, by rw [hi, pairsA_len, ← hl]; exact Nat.le_refl _⟩⟩
  have hv : i < vs.length := by rw [← hl, ← pairsA_len xs 0]; exact hi
  refine ⟨⟨vs, vs[i], q, List.getElem?_eq_getElem hv⟩, fun x H2 y => ?_⟩
  obtain ⟨T, z, rfl, hT, rfl, y⟩ := y
  refine ⟨.inr ⟨T, _, hT, rfl⟩, fun v hv' => ?_⟩
  obtain ⟨w, e1, e2⟩ := pairsA_get xs 0 i v hv'
  obtain ⟨u, e3, e4⟩ := r1.get e1
  rw [y vs q] at e3
  cases e3
  rw [e2, Nat.zero_add]
  exact .tup upd_same (.cons (.int _) (.cons (e4.mono (Stp.tmp hT)) .nil))
theorem deV_ok {c : MC} {ρ : Rho} {H : Hp} {v : AV} {x : V} {t : Bool} {xs : List AV} (h : VR c ρ H v x) (e : deV v = some (t, xs)) : ∃ a vs, x = .ref a ∧ VRs c ρ H xs vs ∧ ((t = true ∧ SqT c.K H a vs ∧ ∀ ρ1 H1, Stw ρ H ρ1 H1 → SqT c.K H1 a vs) ∨ (t = false ∧ Rd H a (.lst vs) ∧ ¬ ρ.has a)) := by
  cases h with
  | tup h q => cases e; exact ⟨_, _, rfl, q, .inl ⟨rfl, .of h, fun ρ1 H1 s => .of (s.tups _ _ h)⟩⟩
  | ktup h q => cases e; exact ⟨_, _, rfl, q, .inl ⟨rfl, h.sq, fun ρ1 H1 s => h.sq⟩⟩
  | lst h n q => cases e; exact ⟨_, _, rfl, q, .inr ⟨rfl, h, n⟩⟩
  | _ => simp [deV] at e
theorem mi_enum (hm : X.mg "enumerate" = none) (he : ME X G W e ma) (hg : Gl X "enumerate" := by rfl) (hs : starEach [e] X.env = (false, eval e X.env) :: starEach [] X.env := by rfl) (hs' : starEach [e] X.env = [(false, eval e X.env)] := by rfl) :
    MI X G W (.Tuple elts kk tpos) (.Call (.Name "enumerate" p) [e] [] pos) (mEnum ma) := pi_imp (PI.or (pi_enum hg hm (pa_cons he pa_nil hs) hs') (pi_enumT hg hm (pa_cons he pa_nil hs) hs')) fun σ H S q => by
  obtain ⟨ρ, fr, st, avs, r, _, p⟩ := q
  have p : Pst (cx X G) W ρ fr σ H (fun I ρ H => ∀ J, WkM (cx X G) J I ρ H → S J H) (mEnum ma fr st) := p
  unfold mEnum at p
  cases em : ma fr st with
  | stuck => simp only [em, R.bind_stuck] at p; exact p.elim
  | exc x st1 =>
    simp only [em, R.bind_exc] at p
    refine .inl ⟨ρ, fr, st, [], r, .nil, ?_⟩
    show Pst _ _ _ _ _ _ _ (ma fr st)
    rw [em]
    exact p
  | ok v st1 =>
    simp only [em, R.bind_ok] at p
    cases ed : deV v with
    | none => rw [ed] at p; exact p.elim
    | some tx =>
      obtain ⟨t, xs⟩ := tx
      rw [ed] at p
      cases t with
      | true =>
        refine .inr ⟨ρ, fr, st, [], r, .nil, ?_⟩
        show Pst _ _ _ _ _ _ _ (ma fr st)
        rw [em]
        intro ρ' H' s r' x hx
        obtain ⟨a, vs, rfl, hr, hh⟩ := deV_ok hx ed
        rcases hh with ⟨_, h1, h2⟩ | ⟨h1, _⟩
        · exact ⟨a, vs, rfl, h1, p ρ' H' s r' _ (wk_enumT h1 h2 hr)⟩
        · cases h1
      | false =>
        refine .inl ⟨ρ, fr, st, [], r, .nil, ?_⟩
        show Pst _ _ _ _ _ _ _ (ma fr st)
        rw [em]
        intro ρ' H' s r' x hx
        obtain ⟨a, vs, rfl, hr, hh⟩ := deV_ok hx ed
        rcases hh with ⟨h1, _⟩ | ⟨_, h1, h2⟩
        · cases h1
        · exact ⟨a, vs, rfl, .inl h1, p ρ' H' s r' _ (wk_enumL h1 h2 hr)⟩

/-! ### zip -/
def zipA (xs ys : List AV) : List AV := (xs.zip ys).map fun p => .tup [p.1, p.2]
def mZip (ma mb : Fr → M AV) : Fr → M Its := fun fr st => (ma fr st).bind fun v st1 => (mb fr st1).bind fun w st2 => match v, w with
  | .tup xs, .tup ys => .ok ⟨zipA xs ys, none⟩ st2
  | _, _ => .stuck
theorem wk_zipT {c : MC} {ρ : Rho} {H : Hp} {a b : Addr} {vs ws : List V} {xs ys : List AV} (h : H a = some (.tup vs)) (h' : H b = some (.tup ws)) (r : VRs c ρ H xs vs) (r' : VRs c ρ H ys ws) : WkM c (RZ.ItzT c.K a b) ⟨zipA xs ys, none⟩ ρ H := fun i ρ1 H1 s _ => by
  have q : SqT c.K H1 a vs := .of (s.tups _ _ h)
  have q' : SqT c.K H1 b ws := .of (s.tups _ _ h')
  have r1 := r.monoW s
  have r2 := r'.monoW s
  have l1 := r.len
  have l2 := r'.len
  have lz : (zipA xs ys).length = min xs.length ys.length := by simp [zipA, List.length_zip]
  refine ⟨fun hi => ?_, fun hi => ⟨vs, ws, q, q', by have hi : i = (zipA xs ys).length := hi; omega⟩⟩
  have hi : i < (zipA xs ys).length := hi
  have hv : i < vs.length := by omega
  have hw : i < ws.length := by omega
  refine ⟨⟨vs, ws, vs[i], ws[i], q, q', List.getElem?_eq_getElem hv, List.getElem?_eq_getElem hw⟩, fun x H2 y => ?_⟩
  obtain ⟨T, z, z', rfl, hT, rfl, y, y'⟩ := y
  refine ⟨.inr ⟨T, _, hT, rfl⟩, fun v hv' => ?_⟩
  have hv' : (zipA xs ys)[i]? = some v := hv'
  simp only [zipA, List.getElem?_map, Option.map_eq_some_iff] at hv'
  obtain ⟨⟨u1, u2⟩, e1, e2⟩ := hv'
  rw [List.getElem?_zip_eq_some] at e1
  obtain ⟨w1, e3, e4⟩ := r1.get e1.1
  obtain ⟨w2, e5, e6⟩ := r2.get e1.2
  rw [y vs q] at e3
  rw [y' ws q'] at e5
  cases e3
  cases e5
  subst e2
  exact .tup upd_same (.cons (e4.mono (Stp.tmp hT)) (.cons (e6.mono (Stp.tmp hT)) .nil))
theorem mi_zip (hm : X.mg "zip" = none) (ha : ME X G W a ma) (hb : ME X G W b mb) (hg : Gl X "zip" := by rfl) (h1 : starEach [a, b] X.env = (false, eval a X.env) :: starEach [b] X.env := by rfl) (h2 : starEach [b] X.env = (false, eval b X.env) :: starEach [] X.env := by rfl) (hpl : (backTo pos (starEach [b] X.env)).any (·.1) = false := by rfl) :
    MI X G W (.Tuple elts kk tpos) (.Call (.Name "zip" p) [a, b] [] pos) (mZip ma mb) := pi_imp (RZ.pi_zipA hg hm (pa_cons ha (pa_cons hb pa_nil h2) h1) h1 hpl) fun σ H S q => by
  have q1 := bindV (c := cx X G) (W := W) (σ := σ) (H := H) (P := fun I ρ H => ∀ J, WkM (cx X G) J I ρ H → S J H) (vs := []) (m := ma) (k := fun avs fr st => (mb fr st).bind fun w st2 => match avs with
    | [v] => (match v, w with
      | .tup xs, .tup ys => .ok ⟨zipA xs ys, none⟩ st2
      | _, _ => .stuck)
    | _ => .stuck) (tG.nil q)
  refine tG.imp q1 fun v ρ H1 h x hx => ?_
  have q2 := bindV (c := cx X G) (W := W) (σ := σ) (H := H1) (P := fun I ρ H => ∀ J, WkM (cx X G) J I ρ H → S J H) (vs := [x]) (m := mb) (k := ap2 (fun v w st2 => match v, w with
      | .tup xs, .tup ys => .ok ⟨zipA xs ys, none⟩ st2
      | _, _ => .stuck)) (by
    obtain ⟨ρ2, fr2, st2, avs, r2, q2, p2⟩ := h x hx
    cases q2 with
    | cons hv t =>
      cases t
      exact ⟨ρ2, fr2, st2, _, r2, .cons hv .nil, p2⟩)
  refine tG.imp q2 fun w ρ2 H2 h2 y hy => ?_
  obtain ⟨ρ3, fr3, st3, v3, w3, r3, hv3, hw3, p3⟩ := (h2 y hy).un2
  show ∃ a b xs ys, [x, y] = [V.ref a, V.ref b] ∧ _
  cases hv3 <;> first
    | (cases hw3 <;> first
        | exact p3.elim
        | skip)
    | exact p3.elim
  rename_i a' xs vs h' hr b' ys ws h'' hr'
  exact ⟨a', b', vs, ws, rfl, .inr ⟨.of h', .of h'', p3 ρ3 H2 (Stp.refl _ _) r3 _ (wk_zipT h' h'' hr hr')⟩⟩

/-! ### range -/
def rngA (lo : Int) : Nat → List AV
  | 0 => []
  | n + 1 => .int lo :: rngA (lo + 1) n
theorem rngA_len : ∀ (n : Nat) (lo : Int), (rngA lo n).length = n
  | 0, _ => rfl
  | n + 1, lo => by simp [rngA, rngA_len n]
theorem rngA_get : ∀ (n : Nat) (lo : Int) (i : Nat) (v : AV), (rngA lo n)[i]? = some v → v = .int (lo + i)
  | 0, _, _, _, h => by simp [rngA] at h
  | n + 1, lo, 0, v, h => by simp [rngA] at h; rw [← h]; simp
  | n + 1, lo, i + 1, v, h => by
    rw [rngA_get n (lo + 1) i v (by simpa [rngA] using h)]
    simp; omega
theorem wk_rng {c : MC} {ρ : Rho} {H : Hp} {lo : Int} {n : Nat} : WkM c (Itr lo n) ⟨rngA lo n, none⟩ ρ H := fun i ρ1 H1 s _ => by
  refine ⟨fun hi => ⟨by have hi : i < (rngA lo n).length := hi; rw [rngA_len] at hi; exact hi, fun x H2 y => ?_⟩, fun hi => by have hi : i = (rngA lo n).length := hi; rw [rngA_len] at hi; exact Nat.le_of_eq hi.symm⟩
  obtain ⟨rfl, rfl⟩ := y
  refine ⟨.inl rfl, fun v hv => ?_⟩
  rw [rngA_get n lo i v hv]
  exact .int _
def mRange1 : List AV → Option Its
  | [.int j] => if -(2 ^ 62) ≤ j ∧ j < 2 ^ 62 then some ⟨rngA 0 j.toNat, none⟩ else none
  | _ => none
def mRange2 : List AV → Option Its
  | [.int i, .int j] => if -(2 ^ 62) ≤ i ∧ i < 2 ^ 62 ∧ -(2 ^ 62) ≤ j ∧ j < 2 ^ 62 then some ⟨rngA i (j - i).toNat, none⟩ else none
  | _ => none
def mRng (f : List AV → Option Its) (m : Fr → M (List AV)) : Fr → M Its := fun fr st => (m fr st).bind fun vs st1 => match f vs with
  | some I => .ok I st1
  | none => .stuck
variable {ml : Fr → M (List AV)} {f : List AV → Option Its}
theorem rng_read {c : MC} {W : WX} {σ : L2.St} {H : Hp} {S : It → Hp → Prop} (q : tMi c W (mRng f ml) σ H S) : tMa c W ml σ H fun vs H1 => ∃ ρ fr st avs, Rep c ρ fr st σ H1 ∧ VRs c ρ H1 avs vs ∧ ∃ I, f avs = some I ∧ ∀ J, WkM c J I ρ H1 → S J H1 := by
  have q1 := bindL (c := c) (W := W) (σ := σ) (H := H) (P := fun I ρ H => ∀ J, WkM c J I ρ H → S J H) (vs := []) (m := ml) (k := fun avs fr st => match f avs with
    | some I => .ok I st
    | none => .stuck) (tG.nil q)
  refine tG.imp q1 fun v ρ H1 h x hx => ?_
  obtain ⟨ρ2, fr2, st2, avs, r2, q2, p2⟩ := h x hx
  refine ⟨ρ2, fr2, st2, avs, r2, q2, ?_⟩
  simp only at p2
  cases em : f avs with
  | none => rw [em] at p2; exact p2.elim
  | some I => rw [em] at p2; exact ⟨I, rfl, p2 ρ2 H1 (Stp.refl _ _) r2⟩
theorem mi_range1 (hm : X.mg "range" = none) (ha : MA X G W [a] ml) (hg : Gl X "range" := by rfl) (hs : starEach [a] X.env = [(false, eval a X.env)] := by rfl) : MI X G W tg (.Call (.Name "range" p) [a] [] pos) (mRng mRange1 ml) :=
  pi_imp (pi_range1 hg hm ha hs) fun σ H S q => by
    refine tG.imp (rng_read q) fun v ρ H1 h x hx => ?_
    obtain ⟨ρ2, fr, st, avs, r, hr, I, hI, hS⟩ := h x hx
    unfold mRange1 at hI
    split at hI
    · rename_i j
      split at hI
      · rename_i hj
        cases hI
        cases hr with
        | cons h1 t => cases t; cases h1; exact ⟨j, rfl, hj.1, hj.2, hS _ wk_rng⟩
      · cases hI
    · cases hI
theorem mi_range2 (hm : X.mg "range" = none) (ha : MA X G W [a, b] ml) (hg : Gl X "range" := by rfl) (hs : starEach [a, b] X.env = [(false, eval a X.env), (false, eval b X.env)] := by rfl) (hs2 : starEach [b] X.env = [(false, eval b X.env)] := by rfl) : MI X G W tg (.Call (.Name "range" p) [a, b] [] pos) (mRng mRange2 ml) :=
  pi_imp (pi_range2 hg hm ha hs hs2) fun σ H S q => by
    refine tG.imp (rng_read q) fun v ρ H1 h x hx => ?_
    obtain ⟨ρ2, fr, st, avs, r, hr, I, hI, hS⟩ := h x hx
    unfold mRange2 at hI
    split at hI
    · rename_i i j
      split at hI
      · rename_i hj
        cases hI
        cases hr with
        | cons h1 t =>
          cases h1
          cases t with
          | cons h2 t => cases t; cases h2; exact ⟨i, j, rfl, hj, hS _ wk_rng⟩
      · cases hI
    · cases hI
end
end MM
set_option Elab.async false
set_option linter.all false
set_option maxRecDepth 100000
set_option maxHeartbeats 4000000
/-! The mirror's slices, +, *, tuple(..), list(..), dict(..), int(..), min, max. -/
namespace MM
open PySem PySem.Spec PyProof.Rows L2

/-! ### list + list, also while one is locked; tuple * int -/
def rCatR : R2 := fun x y H Q => ∃ l b xs zs, x = .ref l ∧ y = .ref b ∧ Rd H l (.lst xs) ∧ Rd H b (.lst zs) ∧ xs.length + zs.length ≤ sizeLine ∧ ∀ p, H p = none → Q (.ref p) (upd H p (.lst (xs ++ zs)))
section
variable {X : Cx}
theorem op_catR : OpR X (binaryOp .Add) rCatR := fun pins s σ H x y v u Q I rx ry h => by
  obtain ⟨l, b, xs, zs, rfl, rfl, h1, h2, hz, q⟩ := h
  cases rx
  cases ry
  obtain ⟨z1, its1, n1, r1, e1⟩ := h1.ok I.hok
  obtain ⟨z2, its2, n2, r2, e2⟩ := h2.ok I.hok
  have l1 := r1.length
  have l2 := r2.length
  refine PySem.P.add_list e1 e2 ?_ (by rw [List.size_toArray, List.size_toArray]; omega)
  rw [show its1.toArray ++ its2.toArray = (its1 ++ its2).toArray by simp]
  exact ⟨.ref _, _, I.lnew (t' := s.toks) (r1.append r2) (by rw [List.length_append]; omega), rfl, q _ I.fresh⟩
def rRepM (K : PySem.W.Frag) : R2 := fun x y H Q => ∃ l k xs, x = .ref l ∧ y = .int k ∧ SqT K H l xs ∧ xs ≠ [] ∧ 2 ≤ k ∧ k ≤ 100000 ∧ xs.length ≤ 100 ∧ ∀ p, H p = none → Q (.ref p) (upd H p (.tup (List.replicate k.toNat xs).flatten))
theorem op_repM : OpR X (binaryOp .Mult) (rRepM X.K) := fun pins s σ H x y v u Q I rx ry h => by
  obtain ⟨l, k, xs, rfl, rfl, hT, hne, h1, h2, hz, q⟩ := h
  cases rx
  obtain ⟨t, rfl⟩ := ry
  obtain ⟨its, r, ⟨⟨cls, dd, data, sl⟩, ho, hc, n, hd⟩, hs⟩ := I.tuple hT
  simp only at hc hd
  subst hc hd
  have el : its.length = xs.length := r.length.symm
  have full : its.toArray.isEmpty = false := by
    cases its with
    | nil => exact absurd (List.eq_nil_of_length_eq_zero el.symm) hne
    | cons a b => rfl
  have sz : its.toArray.size = xs.length := by rw [List.size_toArray, el]
  have prod : ((its.toArray.size : Nat) : Int) * k ≤ 10000000 := by
    rw [sz]
    exact Int.le_trans (Int.mul_le_mul_of_nonneg_right (show ((xs.length : Nat) : Int) ≤ 100 by omega) (by omega)) (by omega)
  have bnd : k.toNat * xs.length ≤ 100000 * 100 := Nat.mul_le_mul (by omega) hz
  have hl : sizeLine = 16777216 := sizeLine_eq
  have flen : (List.replicate k.toNat its).flatten.length ≤ sizeLine := by
    rw [PyProof.Rows.lm_len_rep_flat, el]
    omega
  have c0 : (decide (k < -(2 ^ 63)) || decide (k ≥ 2 ^ 63)) = false := by
    rw [decide_eq_false (by omega), decide_eq_false (by omega)]; rfl
  have c1 : (its.toArray.isEmpty || k == 1) = false := by
    rw [full]
    simp
    omega
  have c2 : (decide (k ≤ 0) || its.toArray.isEmpty) = false := by
    rw [full, Bool.or_false]
    exact decide_eq_false (by omega)
  have c4 : Builtin.Tuple.tupleTooMany (((its.toArray.size : Nat) : Int) * k) = false := by
    unfold Builtin.Tuple.tupleTooMany
    exact decide_eq_false (by omega)
  have mul := tuple_mulW l its.toArray n dd sl k t c0 c1 c2 (by omega) c4 (by rw [size_rep, List.size_toArray]; exact flen)
  refine wpAny_binaryOp_repeat_ref (T := "tuple") (U := "int") (by decide) ⟨_, ho, rfl⟩ (fun s' => typeIs_int s' k t) noFill_tuple_mul F.fills_int_mul F.slot_int_rmul repeat_tuple F.slot_int_index.lookup
    (call_meets F.slot_int_rmul (typeIs_int s k t) F.entry_int_rmul (F.args_int_rmul_2 _ _) (int_rmul_tuple k t l its.toArray n dd sl) ⟨ho, rfl, ⟨_, ho, rfl⟩, call_meets F.slot_tuple_mul ⟨_, ho, rfl⟩ F.entry_tuple_mul (F.args_tuple_mul_2 _ _) mul ⟨ho, ?_⟩⟩)
  rw [size_rep]
  refine ⟨.ref s.heap.objs.size, _, I.laid (t' := s.toks) (o := .tup (List.replicate k.toNat xs).flatten) (fun b ob q => Heap.get?_push_of_some _ q) (Nat.le_refl _) ⟨?_, _, r.rep k.toNat, IsTup.new _ _⟩, rfl, q _ (I.hok.fresh (Nat.le_refl _))⟩
  rw [PyProof.Rows.lm_len_rep_flat]
  omega
end
theorem deL_rd {c : MC} {ρ : Rho} {H : Hp} {fr : Fr} {st : Sto} {σ : L2.St} (r : Rep c ρ fr st σ H) {v : AV} {x : V} {xs : List AV} (h : VR c ρ H v x) (e : deL st v = some xs) : ∃ a vs, x = .ref a ∧ Rd H a (.lst vs) ∧ VRs c ρ H xs vs := deL_ok r h e
section
variable {X : Cx} {G : String → Option Addr} {W : WX} {e a b : Expr} {es : List Expr} {pos p p2 : Pos} {ma mb : Fr → M AV}
/-- + -/
def catM : AV → AV → M AV := fun v w st => match v, w with
  | .int i, .int j => .ok (.int (i + j)) st
  | v, w => match deT v, deT w with
    | some xs, some ys => if xs.length + ys.length ≤ 16000000 then .ok (if xs.isEmpty = true then w else if ys.isEmpty = true then v else .tup (xs ++ ys)) st else .stuck
    | _, _ => match deL st v, deL st w with
      | some xs, some ys => if xs.length + ys.length ≤ 16000000 then .ok (.lst (xs ++ ys)) st else .stuck
      | _, _ => .stuck
theorem o_cat : Op2 X G W (fun x y H Q => rI0 (fun i j => V.int (i + j)) x y H Q ∨ rCatA X.K x y H Q ∨ rCatR x y H Q) catM := fun x y σ H Q q => by
  obtain ⟨ρ, fr, st, v, w, r, hv, hw, p⟩ := q.un2
  unfold catM at p
  split at p
  · cases hv; cases hw
    exact .inl ⟨_, _, rfl, rfl, p ρ H (Stp.refl _ _) r _ (.int _)⟩
  · split at p
    · rename_i xs ys h1 h2
      obtain ⟨a, vs, rfl, hs, hr⟩ := deT_ok hv h1
      obtain ⟨b, ws, rfl, hs', hr'⟩ := deT_ok hw h2
      have l1 := hr.len
      have l2 := hr'.len
      by_cases hl : xs.length + ys.length ≤ 16000000
      case neg => rw [if_neg hl] at p; exact p.elim
      rw [if_pos hl] at p
      refine .inr (.inl ⟨a, b, vs, ws, rfl, rfl, hs, hs', by have : sizeLine = 16777216 := sizeLine_eq; omega, fun e => ?_, fun e1 e2 => ?_, fun e1 e2 p' hp => ?_⟩)
      · subst e
        cases hr
        rw [if_pos (show ([] : List AV).isEmpty = true from rfl)] at p
        exact p ρ H (Stp.refl _ _) r _ hw
      · have e1' : xs.isEmpty = false := by
          cases hr with
          | nil => exact absurd rfl e1
          | cons _ _ => rfl
        subst e2
        cases hr'
        rw [e1', if_neg Bool.false_ne_true, if_pos (show ([] : List AV).isEmpty = true from rfl)] at p
        exact p ρ H (Stp.refl _ _) r _ hv
      · have e1' : xs.isEmpty = false := by
          cases hr with
          | nil => exact absurd rfl e1
          | cons _ _ => rfl
        have e2' : ys.isEmpty = false := by
          cases hr' with
          | nil => exact absurd rfl e2
          | cons _ _ => rfl
        rw [e1', e2', if_neg Bool.false_ne_true, if_neg Bool.false_ne_true] at p
        exact newTup r (hr.app hr') hp p
    · split at p
      · rename_i xs ys h1 h2
        obtain ⟨a, vs, rfl, hs, hr⟩ := deL_ok r hv h1
        obtain ⟨b, ws, rfl, hs', hr'⟩ := deL_ok r hw h2
        have l1 := hr.len
        have l2 := hr'.len
        by_cases hl : xs.length + ys.length ≤ 16000000
        case neg => rw [if_neg hl] at p; exact p.elim
        rw [if_pos hl] at p
        exact .inr (.inr ⟨a, b, vs, ws, rfl, rfl, hs, hs', by have : sizeLine = 16777216 := sizeLine_eq; omega, fun p' hp => newLst r (hr.app hr') hp p⟩)
      · exact p.elim
theorem me_cat (ha : ME X G W a ma) (hb : ME X G W b mb) : ME X G W (.BinOp a .Add b pos) (m2 catM ma mb) := me_op (OpR.or op_add (OpR.or op_catA op_catR)) o_cat ha hb
/-- * -/
def repM : AV → AV → M AV := fun v w st => match v, w with
  | .int i, .int j => if -(2 ^ 64) < i ∧ i < 2 ^ 64 then .ok (.int (i * j)) st else .stuck
  | v, .int k => match deT v with
    | some xs => if xs.isEmpty = false ∧ 2 ≤ k ∧ k ≤ 100000 ∧ xs.length ≤ 100 then .ok (.tup (List.replicate k.toNat xs).flatten) st else .stuck
    | none => .stuck
  | _, _ => .stuck
theorem VRs.rep {c : MC} {ρ : Rho} {H : Hp} {xs : List AV} {vs : List V} (h : VRs c ρ H xs vs) : ∀ k : Nat, VRs c ρ H (List.replicate k xs).flatten (List.replicate k vs).flatten
  | 0 => .nil
  | k + 1 => by
    rw [List.replicate_succ, List.replicate_succ, List.flatten_cons, List.flatten_cons]
    exact h.app (VRs.rep h k)
theorem o_rep : Op2 X G W (fun x y H Q => rI CMul (fun i j => V.int (i * j)) x y H Q ∨ rRepM X.K x y H Q) repM := fun x y σ H Q q => by
  obtain ⟨ρ, fr, st, v, w, r, hv, hw, p⟩ := q.un2
  unfold repM at p
  split at p
  · rename_i i j
    by_cases hc : -(2 ^ 64) < i ∧ i < 2 ^ 64
    case neg => rw [if_neg hc] at p; exact p.elim
    rw [if_pos hc] at p
    cases hv; cases hw
    exact .inl ⟨_, _, rfl, rfl, .inl hc, p ρ H (Stp.refl _ _) r _ (.int _)⟩
  · rename_i k _
    split at p
    · rename_i xs h1
      by_cases hc : xs.isEmpty = false ∧ 2 ≤ k ∧ k ≤ 100000 ∧ xs.length ≤ 100
      case neg => rw [if_neg hc] at p; exact p.elim
      rw [if_pos hc] at p
      cases hw
      obtain ⟨a, vs, rfl, hs, hr⟩ := deT_ok hv h1
      refine .inr ⟨a, k, vs, rfl, rfl, hs, fun e => ?_, hc.2.1, hc.2.2.1, by rw [← hr.len]; exact hc.2.2.2, fun p' hp => newTup r (hr.rep _) hp p⟩
      subst e
      cases hr
      exact absurd hc.1 (by simp)
    · exact p.elim
  · exact p.elim
theorem me_rep (ha : ME X G W a ma) (hb : ME X G W b mb) : ME X G W (.BinOp a .Mult b pos) (m2 repM ma mb) := me_op (OpR.or op_mul op_repM) o_rep ha hb

/-! ### slices -/
def cutA (xs : List AV) (lo hi : Option Int) : List AV := (xs.drop (HT.sIx xs.length 0 lo)).take (HT.sIx xs.length xs.length hi - HT.sIx xs.length 0 lo)
theorem VRs.dropA {c : MC} {ρ : Rho} {H : Hp} : ∀ {xs : List AV} {vs : List V} (n : Nat), VRs c ρ H xs vs → VRs c ρ H (xs.drop n) (vs.drop n)
  | _, _, 0, h => by simpa using h
  | _, _, n + 1, .nil => by simpa using VRs.nil
  | _, _, n + 1, .cons _ r => by simpa using VRs.dropA n r
theorem VRs.takeA {c : MC} {ρ : Rho} {H : Hp} : ∀ {xs : List AV} {vs : List V} (n : Nat), VRs c ρ H xs vs → VRs c ρ H (xs.take n) (vs.take n)
  | _, _, 0, h => by simpa using VRs.nil
  | _, _, n + 1, .nil => by simpa using VRs.nil
  | _, _, n + 1, .cons h r => by simpa using VRs.cons h (VRs.takeA n r)
theorem cutA_ok {c : MC} {ρ : Rho} {H : Hp} {xs : List AV} {vs : List V} (h : VRs c ρ H xs vs) (lo hi : Option Int) : VRs c ρ H (cutA xs lo hi) (cutV vs lo hi) := by
  unfold cutA cutV
  rw [← h.len]
  exact (h.dropA _).takeA _
def cutM (v : AV) (lo hi : Option Int) : M AV := fun st => match deT v with
  | some xs => .ok (if HT.sIx xs.length 0 lo = 0 ∧ HT.sIx xs.length xs.length hi = xs.length then v else .tup (cutA xs lo hi)) st
  | none => match deL st v with
    | some xs => .ok (.lst (cutA xs lo hi)) st
    | none => .stuck
def mPart : Option (Fr → M AV) → Fr → M (Option Int)
  | none, _, st => .ok none st
  | some m, fr, st => (m fr st).bind fun v st1 => match v with
    | .int i => .ok (some i) st1
    | _ => .stuck
def mSlice (m : Fr → M AV) (lo hi : Option (Fr → M AV)) : Fr → M AV := fun fr st => (m fr st).bind fun v st1 => (mPart lo fr st1).bind fun l st2 => (mPart hi fr st2).bind fun u st3 => cutM v l u st3
theorem bindZ {c : MC} {α β : Type} {P : β → Rho → Hp → Prop} {vs : List V} {σ : L2.St} {H : Hp} {m : Fr → M α} {k : α → List AV → Fr → M β} (h : tG c W vs (fun avs fr st => (m fr st).bind fun b => k b avs fr) P σ H) : tG c W [] (fun _ => m) (fun b _ H1 => tG c W vs (k b) P σ H1) σ H := by
  obtain ⟨ρ, fr, st, avs, r, q, p⟩ := h
  refine ⟨ρ, fr, st, [], r, .nil, ?_⟩
  show Pst c W ρ fr σ H _ (m fr st)
  cases e : m fr st with
  | ok v st1 =>
    simp only [e, R.bind_ok] at p
    exact fun ρ' H' s r' => ⟨ρ', fr, st1, avs, r', q.mono s, p.mono s⟩
  | exc x st1 => simp only [e, R.bind_exc] at p; exact p
  | stuck => simp only [e, R.bind_stuck] at p; exact p.elim
def tMo (c : MC) (W : WX) (m : Fr → M (Option Int)) : TO := fun σ H Q => tG c W [] (fun _ => m) (fun o _ H => Q o H) σ H
abbrev MO (X : Cx) (G : String → Option Addr) (W : WX) (e : Option Expr) (m : Option (Fr → M AV)) : Prop := PO X e (tMo (cx X G) W (mPart m))
theorem mo_none : MO X G W none none := ⟨fun pins s σ H Q I q => po_none.run pins s σ H Q I (by
  obtain ⟨ρ, fr, st, avs, r, _, p⟩ := q
  exact p ρ H (Stp.refl _ _) r)⟩
theorem mo_some (h : ME X G W e ma) : MO X G W (some e) (some ma) := ⟨fun pins s σ H Q I q => (po_some h).run pins s σ H Q I (by
  have q1 := bindV (c := cx X G) (W := W) (σ := σ) (H := H) (P := fun (o : Option Int) _ H => Q o H) (vs := []) (m := ma) (k := ap1 fun v st1 => match v with
    | .int i => .ok (some i) st1
    | _ => .stuck) (tG.nil q)
  refine tG.imp q1 fun v ρ H1 h x hx => ?_
  obtain ⟨ρ', fr, st, w, r, hw, p⟩ := (h x hx).un1
  cases hw with
  | int i => exact ⟨i, rfl, p ρ' H1 (Stp.refl _ _) r⟩
  | _ => exact p.elim)⟩
theorem me_slice {lo hi : Option Expr} {ml mh : Option (Fr → M AV)} (he : ME X G W e ma) (hl : MO X G W lo ml) (hh : MO X G W hi mh) : ME X G W (.Subscript e (.Slice lo hi none p2) pos) (mSlice ma ml mh) := pe_imp (pe_slice (SlR.or sl_tupA sl_list) he hl hh) fun σ H Q q => by
  have q1 := bindV (c := cx X G) (W := W) (σ := σ) (H := H) (P := PV (cx X G) Q) (vs := []) (m := ma) (k := fun avs fr st1 => (mPart ml fr st1).bind fun l st2 => (mPart mh fr st2).bind fun u st3 => match avs with
    | [v] => cutM v l u st3
    | _ => .stuck) (tG.nil q)
  refine tG.imp q1 fun v ρ H1 h x hx => ?_
  have q2 := bindZ (c := cx X G) (m := mPart ml) (k := fun l avs fr st2 => (mPart mh fr st2).bind fun u st3 => match avs with
    | [v] => cutM v l u st3
    | _ => .stuck) (h x hx)
  refine tG.imp q2 fun l ρ2 H2 h2 => ?_
  have q3 := bindZ (c := cx X G) (m := mPart mh) (k := fun u avs fr st3 => match avs with
    | [v] => cutM v l u st3
    | _ => .stuck) h2
  refine tG.imp q3 fun u ρ3 H3 h3 => ?_
  obtain ⟨ρ, fr, st, avs, r, hv, p⟩ := h3
  cases hv with
  | cons hv t =>
    cases t
    simp only at p
    unfold cutM at p
    split at p
    · rename_i xs hx
      obtain ⟨a, vs, rfl, hs, hr⟩ := deT_ok hv hx
      have hl := hr.len
      refine .inl ⟨a, vs, rfl, hs, fun hw => ?_, fun hw p' hp => ?_⟩
      · rw [← hl] at hw
        rw [if_pos hw] at p
        exact p ρ H3 (Stp.refl _ _) r _ hv
      · rw [← hl] at hw
        rw [if_neg hw] at p
        exact newTup r (cutA_ok hr l u) hp p
    · split at p
      · rename_i xs hx
        obtain ⟨a, vs, rfl, hs, hr⟩ := deL_ok r hv hx
        exact .inr ⟨a, vs, rfl, .inl hs, fun p' hp => newLst r (cutA_ok hr l u) hp p⟩
      · exact p.elim

/-! ### tuple(..), list(..), dict(..), int(..), min, max -/
def tupleM : List AV → M AV := fun vs st => match vs with
  | [v] => (match deT v with
    | some _ => .ok v st
    | none => match deL st v with
      | some xs => .ok (.tup xs) st
      | none => .stuck)
  | _ => .stuck
theorem ol_tuple : OpL X G W (fun xs H Q => ∃ p ys, xs = [V.ref p] ∧ ((SqL X.K H p ys ∧ ∀ l, H l = none → Q (.ref l) (upd H l (.tup ys))) ∨ (SqT X.K H p ys ∧ Q (.ref p) H))) tupleM := fun xs σ H Q q => by
  obtain ⟨ρ, fr, st, avs, r, hv, p⟩ := q.unL
  unfold tupleM at p
  split at p
  · cases hv with
    | cons h t =>
      cases t
      split at p
      · rename_i ys hx
        obtain ⟨a, vs, rfl, hs, hr⟩ := deT_ok h hx
        exact ⟨a, vs, rfl, .inr ⟨hs, p ρ H (Stp.refl _ _) r _ h⟩⟩
      · split at p
        · rename_i ys hx
          obtain ⟨a, vs, rfl, hs, hr⟩ := deL_ok r h hx
          exact ⟨a, vs, rfl, .inl ⟨.inl hs, fun p' hp => newTup r hr hp p⟩⟩
        · exact p.elim
  · exact p.elim
theorem CallR.or {f : Value} {r r' : List V → Hp → VK → Prop} (h : CallR X f r) (h' : CallR X f r') : CallR X f (fun xs H Q => r xs H Q ∨ r' xs H Q) := fun pins s σ H xs us Q I rv q => q.elim (fun q => h pins s σ H xs us Q I rv q) fun q => h' pins s σ H xs us Q I rv q
def rListOf (K : PySem.W.Frag) : List V → Hp → VK → Prop := fun xs H Q => (∃ p ys, xs = [V.ref p] ∧ (SqL K H p ys ∨ SqT K H p ys) ∧ ∀ l, H l = none → Q (.ref l) (upd H l (.lst ys))) ∨
  (∃ (a : Addr) (kvs : List (Key × V)), xs = [.ref a] ∧ Rd H a (.dK kvs) ∧ ∀ p, H p = none → Q (.ref p) (upd H p (.lst (kvs.map fun kv => kV kv.1)))) ∨
  ∃ d kvs, xs = [V.ref d] ∧ Rd H d (.dT kvs) ∧ ∀ p bs, H p = none → IsKeys H kvs bs → Q (.ref p) (upd H p (.lst (bs.map V.ref)))
theorem call_listOf (hc : X.calm = true) : CallR X (.type "list") (rListOf X.K) := CallR.or call_list_of (CallR.or (call_listD hc) (call_list_dT hc))
def listM : List AV → M AV := fun vs st => match vs with
  | [v] => (match srcOf st v with
    | some xs => .ok (.lst xs) st
    | none => .stuck)
  | _ => .stuck
theorem ol_list : OpL X G W (rListOf X.K) listM := fun xs σ H Q q => by
  obtain ⟨ρ, fr, st, avs, r, hv, p⟩ := q.unL
  unfold listM at p
  split at p
  · cases hv with
    | cons h t =>
      cases t
      split at p
      · rename_i ys hx
        obtain ⟨P, w, hP⟩ := srcOf_ok r h hx
        cases w with
        | @lst a zs hs => exact .inl ⟨a, zs, rfl, .inl hs, fun p' hp => newLst r (hP _ rfl) hp p⟩
        | @tup a zs hs => exact .inl ⟨a, zs, rfl, .inr hs, fun p' hp => newLst r (hP _ rfl) hp p⟩
        | @dk a kvs hs => exact .inr (.inl ⟨a, kvs, rfl, hs, fun p' hp => newLst r (hP _ rfl) hp p⟩)
        | @dt a kvs hs => exact .inr (.inr ⟨a, kvs, rfl, hs, fun p' bs hp hk => newLst r (hP _ ⟨bs, rfl, hk⟩) hp p⟩)
      · exact p.elim
  · exact p.elim
def intM : List AV → M AV := fun vs st => match vs with
  | [.int i] => .ok (.int i) st
  | [.bl b] => .ok (.int (if b then 1 else 0)) st
  | _ => .stuck
theorem ol_int : OpL X G W (fun xs H Q => (∃ i, xs = [V.int i] ∧ Q (.int i) H) ∨ ∃ k, xs = [V.bl k] ∧ Q (.int (if k then 1 else 0)) H) intM := fun xs σ H Q q => by
  obtain ⟨ρ, fr, st, avs, r, hv, p⟩ := q.unL
  unfold intM at p
  split at p
  · cases hv with
    | cons h t => cases t; cases h; exact .inl ⟨_, rfl, p ρ H (Stp.refl _ _) r _ (.int _)⟩
  · cases hv with
    | cons h t => cases t; cases h; exact .inr ⟨_, rfl, p ρ H (Stp.refl _ _) r _ (.int _)⟩
  · exact p.elim
def max2M : List AV → M AV := fun vs st => match vs with
  | [.int i, .int j] => .ok (.int (if j > i then j else i)) st
  | _ => .stuck
theorem ol_max2 : OpL X G W (fun xs H Q => ∃ i j, xs = [V.int i, V.int j] ∧ Q (.int (if j > i then j else i)) H) max2M := fun xs σ H Q q => by
  obtain ⟨ρ, fr, st, avs, r, hv, p⟩ := q.unL
  unfold max2M at p
  split at p
  · cases hv with
    | cons h t =>
      cases h
      cases t with
      | cons h t => cases t; cases h; exact ⟨_, _, rfl, p ρ H (Stp.refl _ _) r _ (.int _)⟩
  · exact p.elim
def min2M : List AV → M AV := fun vs st => match vs with
  | [.int i, .int j] => .ok (.int (if j < i then j else i)) st
  | _ => .stuck
theorem ol_min2 : OpL X G W (fun xs H Q => ∃ i j, xs = [V.int i, V.int j] ∧ Q (.int (if j < i then j else i)) H) min2M := fun xs σ H Q q => by
  obtain ⟨ρ, fr, st, avs, r, hv, p⟩ := q.unL
  unfold min2M at p
  split at p
  · cases hv with
    | cons h t =>
      cases h
      cases t with
      | cons h t => cases t; cases h; exact ⟨_, _, rfl, p ρ H (Stp.refl _ _) r _ (.int _)⟩
  · exact p.elim
end
end MM
set_option Elab.async false
set_option linter.all false
set_option maxRecDepth 100000
set_option maxHeartbeats 4000000
/-! dict(d) for tuple keys of unlike hashes; {}; comprehensions over a dict's keys. -/
namespace MM
open PySem PySem.Spec PyProof.Rows L2
section
variable {X : Cx}
def rDictT (P : Program) (w : World) : List V → Hp → VK → Prop := fun xs H Q => ∃ (a : Addr) (kvs : List (List Key × V)), xs = [.ref a] ∧ Rd H a (.dT kvs) ∧ (kvs.map fun kv => (tupleKind (mixKind P w)).hash kv.1).Nodup ∧ ∀ p, H p = none → Q (.ref p) (upd H p (.dT kvs))
theorem kt_keys {H : Hp} : ∀ {kvs : List (List Key × V)} {xs : List (List Key × Addr × Value)}, KT H kvs xs → kvs.map (·.1) = xs.map (·.1)
  | _, _, .nil => rfl
  | _, _, .cons h t => by
    simp only [List.map_cons]
    rw [h.1, kt_keys t]
theorem kt_refs {H : Hp} : ∀ {kvs : List (List Key × V)} {xs : List (List Key × Addr × Value)}, KT H kvs xs → ∀ x ∈ xs, ∃ vs, H x.2.1 = some (.tup vs)
  | _, _, .nil, x, h => by simp at h
  | _, _, .cons h t, x, hx => by
    rcases List.mem_cons.mp hx with e | hx
    · subst e; exact ⟨_, h.2.1⟩
    · exact kt_refs t x hx
theorem call_dictT (hu : X.A.units + 65 < cLine) : CallR X (.type "dict") (rDictT X.prog X.w) := fun pins s σ H xs us Q I r h => by
  obtain ⟨a, kvs, rfl, hd, hap, q⟩ := h
  obtain rfl := Vals.ref1 r
  obtain ⟨z, lo, more0, rel0, dd0⟩ := dt_rd I.hok hd
  have hdo : s.heap.objs.size ≠ a := by
    obtain ⟨_, _, _, hg, _⟩ := dd0
    exact Nat.ne_of_gt (Heap.lt_size hg)
  refine callType_codes (Q₁ := fun obj s₁ => obj = .ref s.heap.objs.size ∧ s₁ = { s with heap := s.heap.push { cls := .type "dict", data := .dict #[] } }) F.kt_called_dict (F.kt_typeCall_dict_1 _) F.entry_dict_init (kt_code_dict_new _ ⟨rfl, rfl⟩) ?_
  rintro obj s₁ ⟨rfl, rfl⟩
  have old : ∀ b o, s.heap.get? b = some o → (s.heap.push { cls := .type "dict", data := .dict #[] }).get? b = some o := fun b o e => Heap.get?_push_of_some _ e
  have hm : (s.heap.objs.size == sysModules) = false := beq_eq_false_iff_ne.mpr (Nat.ne_of_gt I.big)
  have IN : Inv X pins σ (upd H s.heap.objs.size (.dT [])) { s with heap := s.heap.push { cls := .type "dict", data := .dict #[] } } := I.laid (t' := s.toks) old (Nat.le_refl _) (dt_empty s.heap I.big)
  obtain ⟨_, _, xs0, relN, ddN⟩ := dt_of IN.hok upd_same
  cases relN
  obtain ⟨_, _, more, rel, dd⟩ := dt_rd IN.hok (rd_upd hd (Ne.symm hdo))
  have hl : kvs.length = more.length := Paired.length rel
  have hkeys := kt_keys rel
  have hap2 : (more.map fun x => (tupleKind (mixKind X.prog X.w)).hash x.1).Nodup := by
    have e := congrArg (List.map fun k => (tupleKind (mixKind X.prog X.w)).hash k) hkeys
    rw [List.map_map, List.map_map] at e
    rw [show (more.map fun x => (tupleKind (mixKind X.prog X.w)).hash x.1) = kvs.map fun kv => (tupleKind (mixKind X.prog X.w)).hash kv.1 from e.symm]
    exact hap
  have types : ∀ x ∈ more, Shared.TypeIs { s with heap := s.heap.push { cls := .type "dict", data := .dict #[] } } (.ref x.2.1) "tuple" := fun x hx => by
    obtain ⟨vs, hv⟩ := kt_refs rel x hx
    obtain ⟨_, _, _, o, h1, h2, _⟩ := (show ObjOk X.prog X.w _ _ x.2.1 (.tup vs) from IN.hok _ _ hv)
    exact ⟨o, h1, h2⟩
  have hn : (more.map (·.1)).Nodup := dd.nodup
  refine ⟨ddN.typeIs, F.args_dict_init_2 _ _, ?_⟩
  unfold Builtin.«dict.__init__»
  refine wpAny_bind ?_
  unfold Builtin.Dict.selfAndRest
  refine wpAny_bind (wpAny_notOrdered_dict ddN.typeIs ?_)
  show wpAny _ _ (pure (s.heap.objs.size, [Value.ref a])) _ _ _
  refine wpAny_pure ?_
  show wpAny _ _ (Builtin.Dict.updateFrom "dict.__init__" s.heap.objs.size (.ref a) [] .none) _ _ _
  unfold Builtin.Dict.updateFrom
  refine wpAny_bind (wpAny_typeOf dd.typeIs ?_)
  rw [if_neg (by decide)]
  refine wpAny_bind ?_
  unfold Builtin.Dict.merge
  refine wpAny_bind ?_
  unfold Builtin.Dict.readDirectly
  refine wpAny_bind (wpAny_isInstance dd.typeIs isSubtype_dict_dict ?_)
  simp only [Bool.not_true, Bool.false_eq_true, if_false]
  refine wpAny_bind (wpAny_specialOf dd.typeIs F.slot_dict_iter.lookup (wpAny_pure ?_))
  simp only [beq_self_eq_true, if_true]
  refine wpAny_bind (wpAny_pure ?_)
  refine wpAny_mergeDict_heap (hsz := by simp only [List.length_nil]; omega) (show (tupleKind (mixKind X.prog X.w)).room _ from Nat.lt_of_le_of_lt (show X.A.units + 1 + 1 ≤ X.A.units + 65 by omega) hu) hdo lo ddN dd (.inr ⟨types, hap2⟩) fun h' hd' _ hs' => ?_
  show wpAny _ _ (Builtin.Dict.addKeywords s.heap.objs.size [] >>= _) _ _ _
  rw [storedAllH_nil_of_nodup more hn] at hd'
  obtain ⟨o, es, ep, b1, b2, b3, b4, _, b5⟩ := hd'
  have new : ObjOk X.prog X.w (upd H s.heap.objs.size (.dT kvs)) h' s.heap.objs.size (.dT kvs) := ⟨z, hm, more, rel.keeps fun b ys e => by
    have nb : b ≠ s.heap.objs.size := fun z => by rw [z, upd_same] at e; cases e
    rw [upd_ne nb] at e ⊢
    exact e, o, es, ep, b1, b2, b3, b4, b5⟩
  refine wpAny_bind (wpAny_pure (wpAny_pure ⟨rfl, .ref s.heap.objs.size, upd H s.heap.objs.size (.dT kvs), I.laid (t' := s.toks) (fun b u e => (hs'.2 b (Nat.ne_of_lt (Heap.lt_size e))).trans (old b u e)) (Nat.le_refl _) new, rfl, q _ (I.hok.fresh (Nat.le_refl _))⟩))
end
/-! ### hashes -/
def hInts : List Key → Option (List Int)
  | [] => some []
  | k :: r => match k with
    | .inl i => (match hInts r with
      | some is => some (hashInt i :: is)
      | none => none)
    | .inr _ => none
def hKey (k : List Key) : Option Int := match hInts k with
  | some is => some (reduceHash (Builtin.Tuple.tupleHashOf is))
  | none => none
/-- no two keys of the same hash -/
def apart : List (List Key) → Bool
  | [] => true
  | k :: r => (match hKey k with
    | some h => r.all fun k' => match hKey k' with
      | some h' => decide (h ≠ h')
      | none => false
    | none => false) && apart r
theorem hInts_ok {P : Program} {w : World} : ∀ {k : List Key} {is : List Int}, hInts k = some is → k.map (mixKind P w).hash = is
  | [], _, e => by simp only [hInts, Option.some.injEq] at e; subst e; rfl
  | .inl i :: r, _, e => by
    simp only [hInts] at e
    split at e
    · rename_i is hi
      cases e
      rw [List.map_cons, hInts_ok hi]
      rfl
    · cases e
  | .inr _ :: _, _, e => by simp [hInts] at e
theorem hKey_ok {P : Program} {w : World} {k : List Key} {h : Int} (e : hKey k = some h) : (tupleKind (mixKind P w)).hash k = h := by
  unfold hKey at e
  split at e
  · rename_i is hi
    cases e
    show tupleKeyHash (mixKind P w) k = _
    unfold tupleKeyHash
    rw [hInts_ok hi]
  · cases e
theorem apart_ok {P : Program} {w : World} : ∀ {ks : List (List Key)}, apart ks = true → (ks.map fun k => (tupleKind (mixKind P w)).hash k).Nodup
  | [], _ => List.nodup_nil
  | k :: r, h => by
    simp only [apart, Bool.and_eq_true] at h
    obtain ⟨h1, h2⟩ := h
    rw [List.map_cons, List.nodup_cons]
    refine ⟨fun hm => ?_, apart_ok h2⟩
    obtain ⟨k', hk', e⟩ := List.mem_map.mp hm
    cases eh : hKey k with
    | none => rw [eh] at h1; cases h1
    | some x =>
      rw [eh] at h1
      have h3 := List.all_eq_true.mp h1 k' hk'
      cases eh' : hKey k' with
      | none => rw [eh'] at h3; cases h3
      | some x' =>
        rw [eh'] at h3
        have : x ≠ x' := of_decide_eq_true h3
        rw [hKey_ok eh, hKey_ok eh'] at e
        exact this e.symm
theorem VRt.keys {c : MC} {ρ : Rho} {H : Hp} : ∀ {kvs : List (List Key × AV)} {kws : List (List Key × V)}, VRt c ρ H kvs kws → kvs.map (·.1) = kws.map (·.1)
  | _, _, .nil => rfl
  | _, _, .cons _ r => by simp [VRt.keys r]
/-! ### dict(d), {} -/
def rDictOf (P : Program) (w : World) : List V → Hp → VK → Prop := fun xs H Q => (∃ (a : Addr) (kvs : List (Key × V)), xs = [.ref a] ∧ Rd H a (.dK kvs) ∧ ∀ p, H p = none → Q (.ref p) (upd H p (.dK kvs))) ∨ rDictT P w xs H Q
section
variable {X : Cx} {G : String → Option Addr} {W : WX} {e : Expr} {pos p : Pos} {ma : Fr → M AV}
theorem call_dictOf (hu : X.A.units + 65 < cLine) : CallR X (.type "dict") (rDictOf X.prog X.w) := CallR.or call_dictD (call_dictT hu)
/-- a copy, in the store -/
def dictN : List AV → M AV := fun vs st => match vs with
  | [v] => (match deD st v with
    | some (.k kvs) => .ok (.ptr st.length) (st ++ [.dk kvs])
    | some (.t kvs) => if apart (kvs.map (·.1)) = true then .ok (.ptr st.length) (st ++ [.dt kvs]) else .stuck
    | none => .stuck)
  | _ => .stuck
theorem newPtr {c : MC} {W : WX} {ρ : Rho} {fr : Fr} {st : Sto} {σ : L2.St} {H : Hp} {Q : VK} {o : Ob} {u : HO} {p : Addr} (r : Rep c ρ fr st σ H) (hp : H p = none) (q : OR c ρ H o u) (h : Pst c W ρ fr σ H (PV c Q) (.ok (.ptr st.length) (st ++ [o]))) : Q (.ref p) (upd H p u) := by
  refine h (ρ.add p) _ (Stp.new hp) (r.new hp q) _ (.ptr ?_)
  rw [r.len]
  simp [Rho.add]
theorem ol_dict : OpL X G W (rDictOf X.prog X.w) dictN := fun xs σ H Q q => by
  obtain ⟨ρ, fr, st, avs, r, hv, p⟩ := q.unL
  unfold dictN at p
  split at p
  · cases hv with
    | cons h t =>
      cases t
      split at p
      · rename_i kvs hd
        obtain ⟨a, rfl, kws, h1, h2⟩ := deD_ok r h hd
        exact .inl ⟨a, kws, rfl, h1, fun p' hp => newPtr r hp (.dk h2) p⟩
      · rename_i kvs hd
        by_cases ha : apart (kvs.map (·.1)) = true
        case neg => rw [if_neg ha] at p; exact p.elim
        rw [if_pos ha] at p
        obtain ⟨a, rfl, kws, h1, h2⟩ := deD_ok r h hd
        refine .inr ⟨a, kws, rfl, h1, ?_, fun p' hp => newPtr r hp (.dt h2) p⟩
        have := apart_ok (P := X.prog) (w := X.w) ha
        rw [h2.keys, List.map_map] at this
        exact this
      · exact p.elim
  · exact p.elim
def mNewK : Fr → M AV := fun _ st => .ok (.ptr st.length) (st ++ [.dk []])
def mNewT : Fr → M AV := fun _ st => .ok (.ptr st.length) (st ++ [.dt []])
theorem me_newK : ME X G W (.Dict [] [] pos) mNewK := pe_imp pe_dnewK fun σ H Q q p hp => by
  obtain ⟨ρ, fr, st, avs, r, _, h⟩ := q
  exact newPtr r hp (.dk .nil) h
theorem me_newT : ME X G W (.Dict [] [] pos) mNewT := pe_imp pe_dnewT fun σ H Q q p hp => by
  obtain ⟨ρ, fr, st, avs, r, _, h⟩ := q
  exact newPtr r hp (.dt .nil) h
/-- {} by value, to be of tuple keys -/
def mEmpT : Fr → M AV := fun _ st => .ok (.dt []) st
theorem me_empT : ME X G W (.Dict [] [] pos) mEmpT := pe_imp pe_dnewT fun σ H Q q p hp => by
  obtain ⟨ρ, fr, st, avs, r, _, h⟩ := q
  exact h ρ _ (Stp.tmp hp) (r.tmp hp) _ (.dt (.inl upd_same) (r.notin hp) .nil)
end
end MM
set_option Elab.async false
set_option linter.all false
set_option maxRecDepth 100000
set_option maxHeartbeats 4000000
/-! A dict is locked while its keys are walked. -/
namespace MM
open PySem PySem.Spec PyProof.Rows L2

/-- a dict's content -/
def IsD (u : HO) : Prop := (∃ kvs, u = .dK kvs) ∨ ∃ kvs, u = .dT kvs
section
variable {c : MC} {ρ ρ' : Rho} {H H' : Hp} {d : Addr} {u : HO} {od : Obj}
theorem rd_lock {a : Addr} {w : HO} (hd : H d = some u) (hu : IsD u) (h : Rd H a w) : Rd (upd H d (.frz od u)) a w := by
  by_cases e : a = d
  · subst e
    rcases h with h | ⟨o, h⟩
    · rw [hd] at h; cases h; exact .inr ⟨od, upd_same⟩
    · rw [hd] at h
      rcases hu with ⟨kvs, e⟩ | ⟨kvs, e⟩ <;> (subst e; cases h)
  · exact rd_upd h e
theorem rd_unlock {a : Addr} {w : HO} (hd : H d = some (.frz od u)) (hw : ∀ o z, w ≠ .frz o z) (h : Rd H a w) : Rd (upd H d u) a w := by
  by_cases e : a = d
  · subst e
    rcases h with h | ⟨o, h⟩
    · rw [hd] at h; cases h; exact absurd rfl (hw _ _)
    · rw [hd] at h; cases h; exact .inl upd_same
  · exact rd_upd h e
section
variable (hd : H d = some u) (hu : IsD u)
include hd hu
mutual
theorem VR.lock : ∀ {x : AV} {v : V}, VR c ρ H x v → VR c ρ (upd H d (.frz od u)) x v
  | _, _, .non => .non
  | _, _, .bl b => .bl b
  | _, _, .int i => .int i
  | _, _, .str x => .str x
  | _, _, .ty n => .ty n
  | _, _, .tup (a := a) q r => .tup (by rw [upd_ne (show a ≠ d from fun e => by rw [e, hd] at q; rcases hu with ⟨k, e⟩ | ⟨k, e⟩ <;> (subst e; cases q))]; exact q) (VRs.lock r)
  | _, _, .ktup q r => .ktup q (VRs.lock r)
  | _, _, .lst q n r => .lst (rd_lock hd hu q) n (VRs.lock r)
  | _, _, .dk q n r => .dk (rd_lock hd hu q) n (VRk.lock r)
  | _, _, .dt q n r => .dt (rd_lock hd hu q) n (VRt.lock r)
  | _, _, .ins (a := a) g q n r => .ins g (by rw [upd_ne (show a ≠ d from fun e => by rw [e, hd] at q; rcases hu with ⟨k, e⟩ | ⟨k, e⟩ <;> (subst e; cases q))]; exact q) n (VRf.lock r)
  | _, _, .ptr q => .ptr q
  | _, _, .glo q => .glo q
theorem VRs.lock : ∀ {x : List AV} {v : List V}, VRs c ρ H x v → VRs c ρ (upd H d (.frz od u)) x v
  | _, _, .nil => .nil
  | _, _, .cons q r => .cons (VR.lock q) (VRs.lock r)
theorem VRk.lock : ∀ {x : List (Key × AV)} {v : List (Key × V)}, VRk c ρ H x v → VRk c ρ (upd H d (.frz od u)) x v
  | _, _, .nil => .nil
  | _, _, .cons q r => .cons (VR.lock q) (VRk.lock r)
theorem VRt.lock : ∀ {x : List (List Key × AV)} {v : List (List Key × V)}, VRt c ρ H x v → VRt c ρ (upd H d (.frz od u)) x v
  | _, _, .nil => .nil
  | _, _, .cons q r => .cons (VR.lock q) (VRt.lock r)
theorem VRf.lock : ∀ {x : List (String × AV)} {v : List (Str × V)}, VRf c ρ H x v → VRf c ρ (upd H d (.frz od u)) x v
  | _, _, .nil => .nil
  | _, _, .cons q r => .cons (VR.lock q) (VRf.lock r)
end
theorem OR.lock {o : Ob} {w : HO} (q : OR c ρ H o w) : OR c ρ (upd H d (.frz od u)) o w := by
  cases q with
  | lst r => exact .lst (r.lock hd hu)
  | dk r => exact .dk (r.lock hd hu)
  | dt r => exact .dt (r.lock hd hu)
  | ins g r => exact .ins g (r.lock hd hu)
theorem Rep.lock {fr : Fr} {st : Sto} {σ : L2.St} (r : Rep c ρ fr st σ H) (hm : d ∉ ρ.m) : Rep c ρ fr st σ (upd H d (.frz od u)) :=
  ⟨r.len, r.fl, fun i v e => let ⟨x, q, z⟩ := r.fr i v e; ⟨x, q, z.lock hd hu⟩, r.inj, fun i o e => let ⟨a, w, e1, e2, e3⟩ := r.ob i o e; ⟨a, w, e1, by rw [upd_ne (show a ≠ d from fun z => hm (z ▸ List.mem_of_getElem? e1))]; exact e2, e3.lock hd hu⟩, fun a ha => live_upd a (r.hd a ha)⟩
end
theorem ne_frz {a : Addr} {w : HO} (hd : H d = some (.frz od u)) (hw : ∀ o z, w ≠ .frz o z) (h : H a = some w) : upd H d u a = some w := by
  have e : a ≠ d := fun e => by
    subst e
    rw [h] at hd
    exact hw _ _ (Option.some.inj hd)
  rw [upd_ne e]
  exact h
section
variable (hd : H d = some (.frz od u))
include hd
mutual
theorem VR.unlock : ∀ {x : AV} {v : V}, VR c ρ H x v → VR c ρ (upd H d u) x v
  | _, _, .non => .non
  | _, _, .bl b => .bl b
  | _, _, .int i => .int i
  | _, _, .str x => .str x
  | _, _, .ty n => .ty n
  | _, _, .tup q r => .tup (ne_frz hd (fun _ _ z => HO.noConfusion z) q) (VRs.unlock r)
  | _, _, .ktup q r => .ktup q (VRs.unlock r)
  | _, _, .lst q n r => .lst (rd_unlock hd (fun _ _ z => HO.noConfusion z) q) n (VRs.unlock r)
  | _, _, .dk q n r => .dk (rd_unlock hd (fun _ _ z => HO.noConfusion z) q) n (VRk.unlock r)
  | _, _, .dt q n r => .dt (rd_unlock hd (fun _ _ z => HO.noConfusion z) q) n (VRt.unlock r)
  | _, _, .ins g q n r => .ins g (ne_frz hd (fun _ _ z => HO.noConfusion z) q) n (VRf.unlock r)
  | _, _, .ptr q => .ptr q
  | _, _, .glo q => .glo q
theorem VRs.unlock : ∀ {x : List AV} {v : List V}, VRs c ρ H x v → VRs c ρ (upd H d u) x v
  | _, _, .nil => .nil
  | _, _, .cons q r => .cons (VR.unlock q) (VRs.unlock r)
theorem VRk.unlock : ∀ {x : List (Key × AV)} {v : List (Key × V)}, VRk c ρ H x v → VRk c ρ (upd H d u) x v
  | _, _, .nil => .nil
  | _, _, .cons q r => .cons (VR.unlock q) (VRk.unlock r)
theorem VRt.unlock : ∀ {x : List (List Key × AV)} {v : List (List Key × V)}, VRt c ρ H x v → VRt c ρ (upd H d u) x v
  | _, _, .nil => .nil
  | _, _, .cons q r => .cons (VR.unlock q) (VRt.unlock r)
theorem VRf.unlock : ∀ {x : List (String × AV)} {v : List (Str × V)}, VRf c ρ H x v → VRf c ρ (upd H d u) x v
  | _, _, .nil => .nil
  | _, _, .cons q r => .cons (VR.unlock q) (VRf.unlock r)
end
theorem OR.unlock {o : Ob} {w : HO} (q : OR c ρ H o w) : OR c ρ (upd H d u) o w := by
  cases q with
  | lst r => exact .lst (r.unlock hd)
  | dk r => exact .dk (r.unlock hd)
  | dt r => exact .dt (r.unlock hd)
  | ins g r => exact .ins g (r.unlock hd)
theorem Rep.unlock {fr : Fr} {st : Sto} {σ : L2.St} (r : Rep c ρ fr st σ H) (hm : d ∉ ρ.m) : Rep c ρ fr st σ (upd H d u) :=
  ⟨r.len, r.fl, fun i v e => let ⟨x, q, z⟩ := r.fr i v e; ⟨x, q, z.unlock hd⟩, r.inj, fun i o e => let ⟨a, w, e1, e2, e3⟩ := r.ob i o e; ⟨a, w, e1, by rw [upd_ne (show a ≠ d from fun z => hm (z ▸ List.mem_of_getElem? e1))]; exact e2, e3.unlock hd⟩, fun a ha => live_upd a (r.hd a ha)⟩
end
/-- a step under the lock, seen without it -/
theorem Stp.unlock (s : Stp ρ (upd H d (.frz od u)) ρ' H') (hd : H d = some u) (hu : IsD u) (hm : d ∉ ρ.m) : H' d = some (.frz od u) ∧ d ∉ ρ'.m ∧ Stp ρ H ρ' (upd H' d u) := by
  have h0 : upd H d (.frz od u) d = some (.frz od u) := upd_same
  have h1 := s.keep d _ hm h0
  have lock_none : ∀ {a : Addr}, upd H d (.frz od u) a = none → H a = none := fun {a} z => by
    by_cases e : a = d
    · subst e; rw [upd_same] at z; cases z
    · rw [upd_ne e] at z; exact z
  refine ⟨h1, s.outm hm (by rw [h0]; simp), ?_, s.sub, fun a ha => (s.hid a ha).elim .inl fun z => .inr (lock_none z), fun a w n e => ?_, fun a vs e => ?_, fun a z => ?_⟩
  · obtain ⟨new, e, hn⟩ := s.ext
    exact ⟨new, e, fun a ha => lock_none (hn a ha)⟩
  · by_cases q : a = d
    · subst q; rw [hd] at e; cases e; exact upd_same
    · rw [upd_ne q]
      exact s.keep a w n (by rw [upd_ne q]; exact e)
  · have q : a ≠ d := fun q => by rw [q, hd] at e; rcases hu with ⟨k, e'⟩ | ⟨k, e'⟩ <;> (subst e'; cases e)
    rw [upd_ne q]
    exact s.tups a vs (by rw [upd_ne q]; exact e)
  · refine live_upd a (s.live a ?_)
    exact live_upd a z
end
/-- an end under the lock, as wanted behind it -/
theorem Pst.lock {c : MC} {W : WX} {α : Type} {ρ : Rho} {fr : Fr} {σ : L2.St} {H : Hp} {d : Addr} {u : HO} {od : Obj} {P P' : α → Rho → Hp → Prop} (hd : H d = some u) (hu : IsD u) (hm : d ∉ ρ.m)
    (hp : ∀ a ρ' H', H' d = some (.frz od u) → P a ρ' (upd H' d u) → P' a ρ' H') : ∀ {r : R α}, Pst c W ρ fr σ H P r → Pst c (fun _ _ _ _ => True) ρ fr σ (upd H d (.frz od u)) P' r
  | .ok a st, h => fun ρ' H' s r' => by
    obtain ⟨h1, h2, h3⟩ := s.unlock hd hu hm
    exact hp a ρ' H' h1 (h ρ' _ h3 (r'.unlock h1 h2))
  | .exc _ _, _ => fun _ _ _ _ _ _ _ => True.intro
  | .stuck, h => h.elim
/-- an expression that only looks: what it gives, of the layer's state -/
structure Det (X : Cx) (G : String → Option Addr) (e : Expr) (m : Fr → M AV) (ev : L2.St → Hp → V → Prop) : Prop where
  pe : PE X e (fun σ H Q => ∃ x, ev σ H x ∧ Q x H)
  sim : ∀ {ρ fr st σ H v st1}, Rep (cx X G) ρ fr st σ H → m fr st = .ok v st1 → st1 = st ∧ ∃ x, ev σ H x ∧ VR (cx X G) ρ H v x
  noex : ∀ {fr st x st1}, m fr st ≠ .exc x st1
  lock : ∀ {σ H x d od u}, ev σ H x → H d = some u → IsD u → ev σ (upd H d (.frz od u)) x
section
variable {X : Cx} {G : String → Option Addr} {W : WX} {e : Expr} {pos : Pos} {ma : Fr → M AV}
theorem det_v {i : Nat} (h : PE X e (tVar i)) : Det X G e (mVar i) (fun σ _ x => σ[i]? = some (some x)) where
  pe := pe_imp h fun σ H Q q => by
    obtain ⟨x, e, q⟩ := q
    exact ⟨x, e, q⟩
  sim := fun {ρ fr st σ H v st1} r em => by
    unfold mVar at em
    split at em
    · rename_i w hw
      cases em
      obtain ⟨x, e1, e2⟩ := r.fr i _ hw
      exact ⟨rfl, x, e1, e2⟩
    · cases em
  noex := fun {fr st x st1} em => by
    unfold mVar at em
    split at em <;> cases em
  lock := fun h _ _ => h
theorem det_fld {i : Nat} {C F : String} {A : Addr} {fn : Str} (h : PE X e (tVar i)) (hC : G C = some A) (hc : Cls X.K A) (hn : NoAttr X.K A fn) (hfn : fn = Str.ofString F) (hb : attributeBase e fn X.env (eval e X.env) = eval e X.env := by rfl) :
    Det X G (.Attribute e fn pos) (m1 (fldM C F) (mVar i)) (fun σ H x => ∃ a dx fs, σ[i]? = some (some (.ref a)) ∧ H a = some (.ins A dx fs) ∧ fs.lookup fn = some x) where
  pe := pe_imp (pe_fld h hb) fun σ H Q q => by
    obtain ⟨x, ⟨a, dx, fs, e1, e2, e3⟩, q⟩ := q
    exact ⟨.ref a, e1, a, A, dx, fs, x, rfl, e2, hc, hn, e3, q⟩
  sim := fun {ρ fr st σ H v st1} r em => by
    unfold m1 mVar fldM at em
    cases eg : fr[i]? with
    | none => rw [eg] at em; cases em
    | some o =>
      cases o with
      | none => rw [eg] at em; cases em
      | some w =>
        rw [eg] at em
        simp only [R.bind_ok] at em
        obtain ⟨y, y1, y2⟩ := r.fr i _ eg
        cases ed : deI st w with
        | none => rw [ed] at em; cases em
        | some cf =>
          obtain ⟨C', fs⟩ := cf
          rw [ed] at em
          simp only at em
          by_cases eC : C' = C
          case neg => rw [if_neg eC] at em; cases em
          rw [if_pos eC] at em
          subst eC
          obtain ⟨a, A', dx, vs, rfl, g, hh, q⟩ := deI_ok r y2 ed
          have eA : A' = A := Option.some.inj (g.symm.trans hC)
          subst eA
          rcases lukF_ok (f := F) q with ⟨h1, _⟩ | ⟨v', x', h1, h2, h3⟩
          · rw [h1] at em; cases em
          · rw [h1] at em
            cases em
            exact ⟨rfl, x', ⟨a, dx, vs, y1, hh, by rw [hfn]; exact h2⟩, h3⟩
  noex := fun {fr st x st1} em => by
    unfold m1 mVar fldM at em
    cases eg : fr[i]? with
    | none => rw [eg] at em; cases em
    | some o =>
      cases o with
      | none => rw [eg] at em; cases em
      | some w =>
        rw [eg] at em
        simp only [R.bind_ok] at em
        split at em
        · split at em
          · split at em <;> cases em
          · cases em
        · cases em
  lock := fun {σ H x d od u} h hd hu => by
    obtain ⟨a, dx, fs, e1, e2, e3⟩ := h
    refine ⟨a, dx, fs, e1, ?_, e3⟩
    rw [upd_ne (show a ≠ d from fun z => by rw [z, hd] at e2; rcases hu with ⟨k, z⟩ | ⟨k, z⟩ <;> (subst z; cases e2))]
    exact e2
end
/-- a dict's keys, by value -/
def keysV : AV → Option (List AV)
  | .dk kvs => some (kvs.map fun kv => keyA kv.1)
  | .dt kvs => some (kvs.map fun kv => .tup (kv.1.map keyA))
  | _ => none
section
variable {c : MC} {ρ : Rho} {H : Hp} {d : Addr} {od : Obj}
theorem wk_k {kvs : List (Key × V)} {xs : List (Key × AV)} (hd : H d = some (.frz od (.dK kvs))) (hm : ¬ ρ.has d) (r : VRk c ρ H xs kvs) : WkM c (Itk d od kvs) ⟨xs.map fun kv => keyA kv.1, none⟩ ρ H := fun i ρ1 H1 s _ => by
  have q := s.keep d _ hm hd
  have r1 := keysK_ok' (r.monoW s)
  have hl := r.len
  refine ⟨fun hi => ?_, fun hi => ⟨q, by have hi : i = (xs.map fun kv => keyA kv.1).length := hi; rw [List.length_map] at hi; omega⟩⟩
  have hi : i < (xs.map fun kv => keyA kv.1).length := hi
  rw [List.length_map] at hi
  refine ⟨⟨q, by omega⟩, fun x H2 y => ?_⟩
  obtain ⟨rfl, k, v, e1, rfl⟩ := y
  refine ⟨.inl rfl, fun w hw => ?_⟩
  obtain ⟨z, e2, e3⟩ := r1.get hw
  rw [List.getElem?_map, e1] at e2
  cases e2
  exact e3
theorem wk_t {kvs : List (List Key × V)} {xs : List (List Key × AV)} (hd : H d = some (.frz od (.dT kvs))) (hm : ¬ ρ.has d) (r : VRt c ρ H xs kvs) : WkM c (Itkt d od kvs) ⟨xs.map fun kv => .tup (kv.1.map keyA), none⟩ ρ H := fun i ρ1 H1 s _ => by
  have q := s.keep d _ hm hd
  have hl := r.len
  refine ⟨fun hi => ?_, fun hi => ⟨q, by have hi : i = (xs.map fun kv => AV.tup (kv.1.map keyA)).length := hi; rw [List.length_map] at hi; omega⟩⟩
  have hi : i < (xs.map fun kv => AV.tup (kv.1.map keyA)).length := hi
  rw [List.length_map] at hi
  refine ⟨⟨q, by omega⟩, fun x H2 y => ?_⟩
  obtain ⟨rfl, k, v, b, e1, rfl, e2⟩ := y
  refine ⟨.inl rfl, fun w hw => ?_⟩
  have hw : (xs.map fun kv => AV.tup (kv.1.map keyA))[i]? = some w := hw
  rw [List.getElem?_map] at hw
  obtain ⟨⟨k', v'⟩, e3, e4⟩ := Option.map_eq_some_iff.mp hw
  have ek : k' = k := by
    have := congrArg (fun l => l[i]?) r.keys
    simp only [List.getElem?_map, e3, e1, Option.map_some] at this
    exact Option.some.inj this
  subst e4 ek
  exact .tup e2 (keysA_ok _)
end
/-- the walk's start over the keys of a dict that has been looked up -/
def mOver {α : Type} (m : Fr → M AV) (k : List AV → Fr → M α) : Fr → M α := fun fr st => (m fr st).bind fun v st1 => match keysV v with
  | some ks => k ks fr st1
  | none => .stuck
section
variable {X : Cx} {G : String → Option Addr} {W : WX} {e : Expr} {ma : Fr → M AV} {ev : L2.St → Hp → V → Prop}
theorem keysV_ok {c : MC} {ρ : Rho} {H : Hp} {v : AV} {x : V} {ks : List AV} (h : VR c ρ H v x) (e : keysV v = some ks) : ∃ a u, x = .ref a ∧ ¬ ρ.has a ∧ IsD u ∧ Rd H a u ∧ ((∃ kvs xs, u = .dK kvs ∧ VRk c ρ H xs kvs ∧ ks = xs.map fun kv => keyA kv.1) ∨ ∃ kvs xs, u = .dT kvs ∧ VRt c ρ H xs kvs ∧ ks = xs.map fun kv => .tup (kv.1.map keyA)) := by
  cases h with
  | dk h n q => cases e; exact ⟨_, _, rfl, n, .inl ⟨_, rfl⟩, h, .inl ⟨_, _, rfl, q, rfl⟩⟩
  | dt h n q => cases e; exact ⟨_, _, rfl, n, .inr ⟨_, rfl⟩, h, .inr ⟨_, _, rfl, q, rfl⟩⟩
  | _ => simp [keysV] at e
/-- over the keys of a dict: T the comprehension's reading behind the iterator -/
theorem overRead (D : Det X G e ma ev) {σ : L2.St} {H : Hp} {Q : VK} {Body : L2.St → It → VK → Hp → Prop} {k : List AV → Fr → M AV}
    (body : ∀ {W' : WX} {H1 : Hp} {Q' : VK} {ks : List AV} {ρ1 : Rho} {fr : Fr} {st1 : Sto} {J : It}, Rep (cx X G) ρ1 fr st1 σ H1 → WkM (cx X G) J ⟨ks, none⟩ ρ1 H1 → Pst (cx X G) W' ρ1 fr σ H1 (PV (cx X G) Q') (k ks fr st1) → Body σ J Q' H1)
    (q : tM (cx X G) W (mOver ma k) σ H Q) : iKeys (fun σ H Q => ∃ x, ev σ H x ∧ Q x H) σ H (fun J H1 => Body σ J Q H1) ∨ tLockE (fun σ H Q => iKeys (fun σ H Q => ∃ x, ev σ H x ∧ Q x H) σ H fun J H1 => Body σ J Q H1) σ H Q := by
  obtain ⟨ρ, fr, st, avs, r, _, p0⟩ := q
  have p : Pst (cx X G) W ρ fr σ H (PV (cx X G) Q) (mOver ma k fr st) := p0
  clear p0
  unfold mOver at p
  cases em : ma fr st with
  | stuck => rw [em] at p; exact p.elim
  | exc y st1 => exact absurd em D.noex
  | ok v st1 =>
    rw [em] at p
    simp only [R.bind_ok] at p
    cases ek : keysV v with
    | none => rw [ek] at p; exact p.elim
    | some ks =>
      rw [ek] at p
      simp only at p
      obtain ⟨rfl, x, hev, hx⟩ := D.sim r em
      obtain ⟨a, u, rfl, na, hu, hrd, hk⟩ := keysV_ok hx ek
      have nm : a ∉ ρ.m := fun z => na (.inl z)
      rcases hrd with hd | ⟨o, hd⟩
      · refine .inr ⟨a, u, hd, by rcases hu with ⟨w, z⟩ | ⟨w, z⟩ <;> (subst z; trivial), fun od => ?_⟩
        refine ⟨.ref a, D.lock hev hd hu, a, od, rfl, ?_⟩
        have p2 : Pst (cx X G) (fun _ _ _ _ => True) ρ fr σ (upd H a (.frz od u)) (PV (cx X G) fun v H' => H' a = some (.frz od u) ∧ Q v (upd H' a u)) (k ks fr st1) :=
          Pst.lock (P := PV (cx X G) Q) hd hu nm (fun v ρ' H' h1 h2 y hy => ⟨h1, h2 y (hy.unlock h1)⟩) p
        rcases hk with ⟨kvs, xs, rfl, hr, rfl⟩ | ⟨kvs, xs, rfl, hr, rfl⟩
        · exact .inl ⟨kvs, upd_same, body (r.lock hd hu nm) (wk_k upd_same na (hr.lock hd hu)) p2⟩
        · exact .inr ⟨kvs, upd_same, body (r.lock hd hu nm) (wk_t upd_same na (hr.lock hd hu)) p2⟩
      · refine .inl ⟨.ref a, hev, a, o, rfl, ?_⟩
        rcases hk with ⟨kvs, xs, rfl, hr, rfl⟩ | ⟨kvs, xs, rfl, hr, rfl⟩
        · exact .inl ⟨kvs, hd, body r (wk_k hd na hr) p⟩
        · exact .inr ⟨kvs, hd, body r (wk_t hd na hr) p⟩
theorem pe_orL {t : TE} (h : PE X e t) : PE X e (fun σ H Q => t σ H Q ∨ tLockE t σ H Q) := ⟨fun pins s σ H Q I q => q.elim (fun q => h.run pins s σ H Q I q) fun q => (pe_lock h).run pins s σ H Q I q⟩
/-- [elt for tg in d if ..] -/
def mCompK (own : List Nat) (t : Tgt) (m : Fr → M AV) (mt : Fr → M Bool) (me : Fr → M AV) : Fr → M AV := mOver m fun ks fr st1 => if ks.length ≤ 16000000 then (compL ⟨ks, none⟩ t mt me (wipeF fr own) ks st1).bind fun vs st2 => .ok (.lst vs) st2 else .stuck
variable {elt kx vx tg : Expr} {ifs : List Expr} {scope : Scope} {own : List (Str × Nat)} {pos : Pos} {t : Tgt} {mt : Fr → M Bool} {me mk mv : Fr → M AV}
theorem me_lcK (hc : X.calm = true) (hN : X.N.Nodup) (D : Det X G e ma ev) (ok : BlkOk X.N X.env.scope scope own) (hm : ∀ i ∈ t.ix, i ∈ own.map (·.2)) (hg : BlkG X scope tg t) (ht : BlkT X G scope ifs mt) (he : BlkE X G scope elt me) (hs : ∀ x, foldedSetIterable e X.env x = pure x := by intro _; rfl) :
    ME X G W (.ListComp elt [⟨tg, e, ifs, 0⟩] scope pos) (mCompK (own.map (·.2)) t ma mt me) :=
  pe_imp (pe_orL (pe_lc hc hN (pi_keys D.pe) ok hg ht he hs)) fun σ H Q q =>
    overRead D (Body := fun σ J Q H1 => LcB (gTgt X.K t) (tMb (cx X G) W0 mt) (tM (cx X G) W0 me) (own.map (fun p : Str × Nat => p.2)) σ Q J H1) (fun r wk p => lcBody hm r wk p) q
/-- {k: v for tg in d if ..}, tuple keys -/
def mDcTK (own : List Nat) (t : Tgt) (m : Fr → M AV) (mt : Fr → M Bool) (mk mv : Fr → M AV) : Fr → M AV := mOver m fun ks fr st1 => (collL ⟨ks, none⟩ t mt (stepT mk mv) (wipeF fr own) ks [] st1).bind fun b st => .ok (.dt b) st
theorem me_dcTK (hu : X.A.units + 1 < cLine) (hc : X.calm = true) (hN : X.N.Nodup) (D : Det X G e ma ev) (ok : BlkOk X.N X.env.scope scope own) (hm : ∀ i ∈ t.ix, i ∈ own.map (·.2)) (hg : BlkG X scope tg t) (ht : BlkT X G scope ifs mt) (hk : BlkE X G scope kx mk) (hv : BlkE X G scope vx mv)
    (hs : ∀ x, foldedSetIterable e X.env x = pure x := by intro _; rfl) : ME X G W (.DictComp kx vx [⟨tg, e, ifs, 0⟩] scope pos) (mDcTK (own.map (·.2)) t ma mt mk mv) :=
  pe_imp (pe_orL (pe_dcG (.inr rfl) hu hc hN (pi_keys D.pe) ok hg ht hk hv hs)) fun σ H Q q =>
    overRead D (Body := fun σ J Q H1 => CollB u0T (gTgt X.K t) (tMb (cx X G) W0 mt) (tlD (tM (cx X G) W0 mk) (tM (cx X G) W0 mv)) (own.map (fun p : Str × Nat => p.2)) σ Q J H1) (fun {W' H1 Q' ks ρ1 fr st1 J} r wk p => collBody (Rel := RT (cx X G)) (P := PV (cx X G) Q') (kf := (fun b st => .ok (.dt b) st : List (List Key × AV) → M AV)) crT hm (fun _ _ _ => ⟨_, rfl, .nil⟩) (fun r a b d e f g => tailT r a b d e f g) r wk p
      fun {D b st ρ1 H1 ρ' H' u fr} hD s r hh nm nh e hR p => by
        obtain ⟨kws, rfl, hk⟩ := hR
        refine p (ρ'.drop D) H' (s.drop hD nh) r.drop (.ref D) (.dt (.inl e) (fun z => ?_) hk.drop)
        rcases z with z | z
        · exact nm z
        · have := (List.mem_filter.mp z).2; simp at this) q
end
end MM
set_option Elab.async false
set_option linter.all false
set_option maxRecDepth 100000
set_option maxHeartbeats 4000000
/-! max(a list of ints, default=..). -/
namespace MM
open PySem PySem.Spec PyProof.Rows L2

section
variable {prog : Program} {w : World} {A : Around} {R : Result → Shared → Prop} {I : Addr} {fp wr : List Addr} {n : Nat} {P : Nat → Value → Prop} {St : Nat → Heap → Prop}
theorem maxD_run (dflt : Value) (Wk : Walks prog w A.in1 I fp wr n P St) (bt : Nat → Nat → Bool) (hcmp : CmpOf prog w A.in1 .Gt P bt) (S : Addr) (hSf : S ∉ fp) :
    ∀ (k j : Nat) (s : Shared) (c : Nat) (old : Array Value), n - j = k → j ≤ n → St j s.heap → ((j = 0 ∧ old = #[]) ∨ ∃ i v, j = i + 1 ∧ old = #[v, v] ∧ P (argBest bt i) v) →
    s.heap.get? S = some { cls := .type "list", dict := none, data := .seq old c, slots := #[] } →
    (∀ v h' tk, ((n = 0 ∧ v = dflt) ∨ (0 < n ∧ P (argBest bt (n - 1)) v)) → (∀ b o, b ∉ wr → b ≠ S → s.heap.get? b = some o → h'.get? b = some o) → R (.ok (.ret v)) { s with heap := h', toks := tk }) →
    codeAny (model prog w) A (.builtin "max.loop" ⟨[.ref I, .none, .ref S], [("default", dflt)]⟩) R s := by
  have notW : S ∉ wr := fun h => hSf (Wk.sub _ h)
  have nm : (toString "max" ++ toString ".loop" : String) = "max.loop" := by decide
  intro k
  induction k with
  | zero =>
    intro j s c old hk hj hst hold hS hR
    have ej : j = n := by omega
    refine codeAny_builtin F.entry_max_loop ?_
    rw [Around.under_plainId F.plain_max_loop _]
    show wpAny _ A.in1 (seqItems? (.ref S) >>= _) _ _ s
    refine wpAny_bind (wpAny_seqItems hS rfl ?_)
    show wpAny _ A.in1 (tryCatch (pyNext (.ref I)) _ >>= _) _ _ s
    refine wpAny_bind (wpAny_tryCatch (Wk.done s _ _ (ej ▸ hst) fun h' tk hk' => ?_))
    rcases hold with ⟨e0, rfl⟩ | ⟨i, v, e1, rfl, hP⟩
    · refine wpAny_bind (wpAny_rule ?_)
      exact wpAny_pure (hR dflt h' tk (.inl ⟨by omega, rfl⟩) fun b o hb _ e => hk' b o hb e)
    · have hS' := hk' S _ notW hS
      show wpAny _ A.in1 (updateSeq S (fun _ => #[]) >>= _) _ _ _
      refine wpAny_bind (wpAny_updateSeq hS' rfl (wpAny_bind (wpAny_letGo (wpAny_pure ?_))))
      have en : n - 1 = i := by omega
      exact hR v _ tk (.inr ⟨by omega, by rw [en]; exact hP⟩) fun b o hb nb e => (Heap.get?_update_other _ _ (Ne.symm nb)).trans (hk' b o hb e)
  | succ k ih =>
    intro j s c old hk hj hst hold hS hR
    have lt : j < n := by omega
    refine codeAny_builtin F.entry_max_loop ?_
    rw [Around.under_plainId F.plain_max_loop _]
    show wpAny _ A.in1 (seqItems? (.ref S) >>= _) _ _ s
    refine wpAny_bind (wpAny_seqItems hS rfl ?_)
    show wpAny _ A.in1 (tryCatch (pyNext (.ref I)) _ >>= _) _ _ s
    refine wpAny_bind (wpAny_tryCatch (Wk.item j s _ _ lt hst fun v h' tk hP hst' hk' => ?_))
    have hS' := hk' S _ notW hS
    have frameS : ∀ {f : Obj → Obj} b, b ∈ fp → ∀ o, h'.get? b = some o → (h'.update S f).get? b = some o := fun {f} b hb o e => (Heap.get?_update_other _ _ (fun z : S = b => hSf (by rw [z]; exact hb))).trans e
    rcases hold with ⟨e0, rfl⟩ | ⟨i, vb, e1, rfl, hPb⟩
    · subst e0
      show wpAny _ A.in1 (updateSeq S (fun _ => #[v, v]) >>= _) _ _ _
      refine wpAny_bind (wpAny_updateSeq hS' rfl ?_)
      rw [nm]
      refine wpAny_pure ⟨plainId_quiet F.plain_max_loop _, ih 1 _ _ #[v, v] (by omega) lt (Wk.frame _ _ _ hst' (frameS (f := Obj.mapSeq fun _ => #[v, v]))) (.inr ⟨0, v, rfl, rfl, hP⟩) (Heap.get?_update_self _ hS' rfl) fun v' h2 tk2 hv hk2 => ?_⟩
      exact hR v' h2 tk2 hv fun b o hb nb e => hk2 b o hb nb ((Heap.get?_update_other _ _ (Ne.symm nb)).trans (hk' b o hb e))
    · subst e1
      show wpAny _ A.in1 (tryCatch (holding [v, v] (richCompare .Gt v vb >>= _)) _ >>= _) _ _ _
      refine wpAny_bind (wpAny_tryCatch (wpAny_holding (wpAny_bind (hcmp (i + 1) (argBest bt i) v vb _ _ _ hP hPb ?_))))
      refine wpAny_bind (wpAny_holding (wpAny_truthy_bool (wpAny_bind (wpAny_letGo (wpAny_pure ?_)))))
      cases hb : bt (i + 1) (argBest bt i) with
      | true =>
        simp only [if_true]
        refine wpAny_bind (wpAny_updateSeq hS' rfl (wpAny_bind (wpAny_letGo ?_)))
        rw [nm]
        refine wpAny_pure ⟨plainId_quiet F.plain_max_loop _, ih (i + 2) _ _ #[v, v] (by omega) lt (Wk.frame _ _ _ hst' (frameS (f := Obj.mapSeq fun _ => #[v, v]))) (.inr ⟨i + 1, v, rfl, rfl, by simp only [argBest, hb, if_true]; exact hP⟩) (Heap.get?_update_self _ hS' rfl) fun v' h2 tk2 hv hk2 => ?_⟩
        exact hR v' h2 tk2 hv fun b o hb nb e => hk2 b o hb nb ((Heap.get?_update_other _ _ (Ne.symm nb)).trans (hk' b o hb e))
      | false =>
        simp only [Bool.false_eq_true, if_false]
        refine wpAny_bind (wpAny_letGo ?_)
        rw [nm]
        refine wpAny_pure ⟨plainId_quiet F.plain_max_loop _, ih (i + 2) _ c #[vb, vb] (by omega) lt hst' (.inr ⟨i + 1, vb, rfl, rfl, by simp only [argBest, hb, Bool.false_eq_true, if_false]; exact hPb⟩) hS' fun v' h2 tk2 hv hk2 => ?_⟩
        exact hR v' h2 tk2 hv fun b o hb nb e => hk2 b o hb nb (hk' b o hb e)
end
section
variable {prog : Program} {w : World} {A : Around} {E : Value → Shared → Prop} {s : Shared}
theorem args_maxD (a b : Value) : argsOk "max" ⟨[a], [(Str.ofString "default", b)]⟩ := by unfold argsOk; kernel_rfl
theorem call_maxD {l : Addr} {its : List Value} {ns : List Int} {dflt : Value} {Q : Value → Shared → Prop} (hh : A.handled = none) (hl : s.heap.IsList l its.toArray) (rv : Vals (ns.map V.int) its)
    (h : ∀ v h' tk, (∀ b o, s.heap.get? b = some o → h'.get? b = some o) → ((ns = [] ∧ v = dflt) ∨ ∃ M t, v = .int M t ∧ M ∈ ns ∧ ∀ y ∈ ns, y ≤ M) → Q v { s with heap := h', toks := tk }) :
    wpAny (model prog w) A (call (.builtin "max") [.ref l] [(Str.ofString "default", dflt)]) Q E s := by
  have nm : (toString "max" ++ toString ".loop" : String) = "max.loop" := by decide
  refine wpAny_call (codeAny_call_builtin F.plain_max F.entry_max (wpAny_of_eq (args_maxD _ _) ?_))
  show wpAny _ A.in1 (Builtin.Builtins.bindParams "max" ["key", "default"] 0 ⟨[], [(Str.ofString "default", dflt)]⟩ >>= _) _ _ s
  refine wpAny_bind (wpAny_of_eq (show Builtin.Builtins.bindParams "max" ["key", "default"] 0 ⟨[], [(Str.ofString "default", dflt)]⟩ = pure [none, some dflt] from rfl) ?_)
  refine wpAny_bind (wpAny_pure ?_)
  have ltl : l < s.heap.objs.size := by obtain ⟨_, e, _⟩ := hl; exact Heap.lt_size e
  refine wpAny_bind (wpAny_pyIter_list hl ?_)
  refine wpAny_bind (wpAny_newObj_type ?_)
  rw [nm]
  have ll : its.length = ns.length := by rw [← rv.length, List.length_map]
  have num : ∀ i v, its.toArray[i]? = some v → ∃ t, v = Value.int (ns.getD i 0) t := fun i v e => by
    have e : its[i]? = some v := by simpa using e
    have hi := (List.getElem?_eq_some_iff.mp e).1
    obtain ⟨u, e1, t, e2⟩ := rv.get (i := i) (x := .int (ns.getD i 0)) (by rw [List.getElem?_map, List.getD_eq_getElem?_getD, List.getElem?_eq_getElem (by omega)]; rfl)
    rw [e] at e1
    cases e1
    exact ⟨t, e2⟩
  have sz : (s.heap.push { cls := .type "list_iterator", data := .fields #[.ref l, .int 0 0] }).objs.size = s.heap.objs.size + 1 := Heap.size_push ..
  have Wk := Walks.list (prog := prog) (w := w) (A := A.in1) hh s.heap.objs.size l (Nat.ne_of_lt ltl) its.toArray
  have keepI : ∀ b o, s.heap.get? b = some o → ((s.heap.push { cls := .type "list_iterator", data := .fields #[.ref l, .int 0 0] }).push { cls := .type "list", data := .seq #[] }).get? b = some o := fun b o e => Heap.get?_push_of_some _ (Heap.get?_push_of_some _ e)
  have it0 : ((s.heap.push { cls := .type "list_iterator", data := .fields #[.ref l, .int 0 0] }).push { cls := .type "list", data := .seq #[] }).get? s.heap.objs.size = some { cls := .type "list_iterator", data := .fields #[.ref l, .int 0 0] } := Heap.get?_push_of_some _ (Heap.get?_push_size _ rfl)
  have nS : (s.heap.push { cls := .type "list_iterator", data := .fields #[.ref l, .int 0 0] }).objs.size ∉ [s.heap.objs.size, l] := by
    rw [sz]
    intro hm
    rcases List.mem_cons.mp hm with e | hm
    · exact Nat.succ_ne_self _ e
    · have e := List.mem_singleton.mp hm
      exact absurd ltl (by rw [← e]; exact Nat.not_lt.mpr (Nat.le_succ _))
  refine wpAny_pure ⟨plainId_quiet F.plain_max_loop _, maxD_run dflt Wk (fun i j => decide (ns.getD i 0 > ns.getD j 0)) (CmpOf.ints_gt (fun i => ns.getD i 0) num) _ nS its.toArray.size 0 _ 0 #[] rfl (Nat.zero_le _) ⟨⟨_, it0, rfl, rfl⟩, hl.at fun o e => keepI l o e⟩ (.inl ⟨rfl, rfl⟩) (Heap.get?_push_size _ rfl) fun v h' tk hv hk => ?_⟩
  refine h v h' tk (fun b o e => ?_) ?_
  · have hb : b < s.heap.objs.size := Heap.lt_size e
    exact hk b o (fun hm => absurd hb (by rw [List.mem_singleton.mp hm]; exact Nat.lt_irrefl _)) (by rw [sz]; exact Nat.ne_of_lt (Nat.lt_succ_of_lt hb)) (keepI b o e)
  · rcases hv with ⟨h0, e⟩ | ⟨h0, e⟩
    · refine .inl ⟨?_, e⟩
      have : its.length = 0 := by simpa using h0
      exact List.eq_nil_of_length_eq_zero (by omega)
    · obtain ⟨t, rfl⟩ := num _ _ e
      have hn : 0 < its.length := by simpa using h0
      obtain ⟨a1, a2⟩ := argBest_gt (fun i => ns.getD i 0) (its.toArray.size - 1)
      have szl : its.toArray.size = its.length := by simp
      refine .inr ⟨_, t, rfl, ?_, fun y hy => ?_⟩
      · have hi : argBest (fun i j => decide (ns.getD i 0 > ns.getD j 0)) (its.toArray.size - 1) < ns.length := by omega
        rw [List.getD_eq_getElem?_getD, List.getElem?_eq_getElem hi]
        exact List.getElem_mem hi
      · obtain ⟨j, hj, rfl⟩ := List.getElem_of_mem hy
        have := a2 j (by omega)
        rw [List.getD_eq_getElem?_getD (i := j), List.getElem?_eq_getElem hj] at this
        exact this
end
def rMaxD (K : PySem.W.Frag) : List V → List V → Hp → VK → Prop := fun vs zs H Q => ∃ (a : Addr) (ns : List Int) (d : Int), vs = [V.ref a] ∧ zs = [V.int d] ∧ SqL K H a (ns.map V.int) ∧ (ns = [] → Q (.int d) H) ∧ ∀ M, M ∈ ns → (∀ y ∈ ns, y ≤ M) → Q (.int M) H
theorem cr_maxD {X : Cx} (hc : X.calm = true) : CallRK X (.builtin "max") [Str.ofString "default"] (rMaxD X.K) := fun pins s σ H vs zs us ws Q I r rz h => by
  obtain ⟨a, ns, d, rfl, rfl, hs, q1, q2⟩ := h
  obtain ⟨its, rv, hl, _⟩ := I.list hs
  obtain rfl := Vals.ref1 r
  obtain ⟨w1, rfl, t, rfl⟩ := vals1 rz
  show wpAny _ _ (call (.builtin "max") [.ref a] [(Str.ofString "default", .int d t)]) _ _ _
  refine call_maxD (I.ok.hd hc) hl.isList rv fun v h' tk hk hv => ?_
  rcases hv with ⟨e, rfl⟩ | ⟨M, t', rfl, h1, h2⟩
  · exact ⟨.int d, H, I.kept hk, ⟨_, rfl⟩, q1 e⟩
  · exact ⟨.int M, H, I.kept hk, ⟨_, rfl⟩, q2 M h1 h2⟩
def maxOf (d : Int) : List Int → Int
  | [] => d
  | x :: r => r.foldl (fun m y => if y > m then y else m) x
theorem foldMax : ∀ (r : List Int) (x : Int), (r.foldl (fun m y => if y > m then y else m) x) ∈ x :: r ∧ ∀ y ∈ x :: r, y ≤ r.foldl (fun m y => if y > m then y else m) x
  | [], x => ⟨by simp, fun y hy => by simp at hy; simp [hy]⟩
  | z :: r, x => by
    simp only [List.foldl_cons]
    obtain ⟨h1, h2⟩ := foldMax r (if z > x then z else x)
    refine ⟨?_, fun y hy => ?_⟩
    · rcases List.mem_cons.mp h1 with h | h
      · rw [h]
        by_cases c : z > x
        · simp [c]
        · simp [c]
      · simp [h]
    · have h0 := h2 (if z > x then z else x) List.mem_cons_self
      rcases List.mem_cons.mp hy with e | hy
      · subst e
        by_cases c : z > y
        · rw [if_pos c] at h0 ⊢; omega
        · rw [if_neg c] at h0 ⊢; omega
      · rcases List.mem_cons.mp hy with e | hy
        · subst e
          by_cases c : y > x
          · rw [if_pos c] at h0 ⊢; omega
          · rw [if_neg c] at h0 ⊢; omega
        · exact h2 y (List.mem_cons_of_mem _ hy)
theorem maxOf_eq {d : Int} {ns : List Int} {M : Int} (h : M ∈ ns) (hM : ∀ y ∈ ns, y ≤ M) : M = maxOf d ns := by
  cases ns with
  | nil => simp at h
  | cons x r =>
    obtain ⟨h1, h2⟩ := foldMax r x
    have a := h2 M h
    have b := hM _ h1
    show M = r.foldl _ x
    omega
/-- max(xs, default=d) -/
def maxDM : AV → AV → M AV := fun v w st => match deL st v, w with
  | some xs, .int d => (match intsOf xs with
    | some ns => .ok (.int (maxOf d ns)) st
    | none => .stuck)
  | _, _ => .stuck
def mMaxD (ma md : Fr → M AV) : Fr → M AV := m2 maxDM ma md
section
variable {X : Cx} {G : String → Option Addr} {W : WX} {e d : Expr} {p p3 pos : Pos} {ma md : Fr → M AV}
theorem me_maxD (hc : X.calm = true) (hm : X.mg "max" = none) (he : ME X G W e ma) (hd : ME X G W d md) (hg : Gl X "max" := by rfl)
    (hst : starEach [e] X.env = (false, eval e X.env) :: starEach [] X.env := by rfl) (h1 : backTo pos (starEach [e] X.env) = (false, eval e X.env) :: backTo pos (starEach [] X.env) := by rfl) (hpl : (backTo pos (starEach [e] X.env)).any (·.1) = false := by rfl)
    (hall : (backToKw pos (keywordEach [⟨some (Str.ofString "default"), d, p3⟩] X.env)).all (·.1.isSome) = true := by rfl) (hnone : (backToKw pos (keywordEach [⟨some (Str.ofString "default"), d, p3⟩] X.env)).any (·.1.isNone) = false := by rfl) (hks : (backToKw pos (keywordEach [⟨some (Str.ofString "default"), d, p3⟩] X.env)).filterMap (·.1) = [Str.ofString "default"] := by rfl) :
    ME X G W (.Call (.Name "max" p) [e] [⟨some (Str.ofString "default"), d, p3⟩] pos) (mMaxD ma md) := pe_imp (pe_callBK (cr_maxD hc) hg hm boot_max (pa_cons he pa_nil hst) (pk_cons hd pk_nil) (by decide) (by decide) h1 hpl hall hnone hks) fun σ H Q q => by
  have q1 : tOp (fun x y H Q => rMaxD X.K [x] [y] H Q) (tM (cx X G) W ma) (tM (cx X G) W md) σ H Q := t2 (fun x y σ H Q q => by
    obtain ⟨ρ, fr, st, v, w, r, hv, hw, p⟩ := q.un2
    unfold maxDM at p
    split at p
    · rename_i xs dd hx
      split at p
      · rename_i ns hn
        obtain ⟨a, vs, rfl, hs, hr⟩ := deL_ok r hv hx
        obtain ⟨e1, e2⟩ := intsOf_ok hr hn
        subst e1
        cases hw
        refine ⟨a, ns, dd, rfl, rfl, .inl hs, fun e => ?_, fun M h1 h2 => ?_⟩
        · subst e
          exact p ρ H (Stp.refl _ _) r _ (.int _)
        · rw [maxOf_eq (d := dd) h1 h2]
          exact p ρ H (Stp.refl _ _) r _ (.int _)
      · exact p.elim
    · exact p.elim) q
  exact q1
end
end MM
set_option Elab.async false
set_option linter.all false
set_option maxRecDepth 100000
set_option maxHeartbeats 4000000
/-! The mirror's list comprehensions with two for. -/
namespace MM
open PySem PySem.Spec PyProof.Rows L2
/-- what the inner loops give, over the outer items -/
def compL2 (I : Its) (t : Tgt) (mi1 : Fr → M Its) (t1 : Tgt) (mt1 : Fr → M Bool) (me : Fr → M AV) (own1 : List Nat) (fr : Fr) : List AV → M (List AV)
  | [], st => if gdok I st then .ok [] st else .stuck
  | x :: xs, st => if gdok I st then (match setTgt t x fr with
    | some fr1 => (mi1 fr1 st).nox.bind fun I1 st1 => if I1.its.length ≤ 10000 then (compL I1 t1 mt1 me (wipeF fr1 own1) I1.its st1).bind fun vs st2 => (compL2 I t mi1 t1 mt1 me own1 fr xs st2).bind fun ws st3 => .ok (vs ++ ws) st3 else .stuck
    | none => .stuck) else .stuck
def mComp2 (own own1 : List Nat) (t : Tgt) (mi : Fr → M Its) (t1 : Tgt) (mi1 : Fr → M Its) (mt1 : Fr → M Bool) (me : Fr → M AV) : Fr → M AV := fun fr st => (mi fr st).bind fun I st1 =>
  if I.its.length ≤ 1000 then (compL2 I t mi1 t1 mt1 me own1 (wipeF fr own) I.its st1).bind fun vs st2 => .ok (.lst vs) st2 else .stuck
theorem compL_len {I : Its} {t : Tgt} {mt : Fr → M Bool} {me : Fr → M AV} {fr : Fr} : ∀ {xs : List AV} {st : Sto} {vs : List AV} {st' : Sto}, compL I t mt me fr xs st = .ok vs st' → vs.length ≤ xs.length
  | [], st, vs, st', h => by
    simp only [compL] at h
    split at h
    · cases h; simp
    · cases h
  | x :: xs, st, vs, st', h => by
    simp only [compL] at h
    split at h
    · split at h
      · obtain ⟨b, st1, _, h⟩ := bind_ok_inv h
        split at h
        · obtain ⟨v, st2, _, h⟩ := bind_ok_inv h
          obtain ⟨ws, st3, h1, h⟩ := bind_ok_inv h
          cases h
          have := compL_len h1
          simp; omega
        · have := compL_len h
          simp; omega
      · cases h
    · cases h
section
variable {c : MC} {W : WX} {own own1 : List Nat} {t t1 : Tgt} {mi mi1 : Fr → M Its} {mt1 : Fr → M Bool} {me : Fr → M AV}
theorem lc2Read (hm : ∀ i ∈ t.ix, i ∈ own) (hm1 : ∀ i ∈ t1.ix, i ∈ own1) {σ : L2.St} {H : Hp} {Q : VK} (q : tM c W (mComp2 own own1 t mi t1 mi1 mt1 me) σ H Q) :
    tLc2 (tMi c W mi) (gTgt c.K t) (tMb c W0 mYes) (tMi c W0 mi1) (gTgt c.K t1) (tMb c W0 mt1) (tM c W0 me) own own1 σ H Q := by
  have q1 := bindI (c := c) (W := W) (m := mi) (P := PV c Q) (k := fun I fr st1 => if I.its.length ≤ 1000 then (compL2 I t mi1 t1 mt1 me own1 (wipeF fr own) I.its st1).bind fun vs st2 => .ok (.lst vs) st2 else .stuck) q
  refine tMi_imp q1 fun J H1 hJ D hD => ?_
  obtain ⟨I, ρ1, fr, st1, r1, wk, p1⟩ := hJ
  by_cases hlen : I.its.length ≤ 1000
  case neg => rw [if_neg hlen] at p1; exact p1.elim
  rw [if_pos hlen] at p1
  have nD : ¬ ρ1.has D := r1.notin hD
  have key : ∃ Iv : Nat → Hp → Prop, Iv = (fun i H' => i ≤ I.its.length ∧ ∃ ρ' st' acc vs, Stp ρ1 H1 ρ' H' ∧ Rep c ρ' fr st' σ H' ∧ D ∈ ρ'.h ∧ D ∉ ρ'.m ∧ H' D = some (.lst vs) ∧ VRs c ρ' H' acc vs ∧ acc.length ≤ i * 10000 ∧
    Pst c W ρ1 fr σ H1 (PV c Q) ((compL2 I t mi1 t1 mt1 me own1 (wipeF fr own) (I.its.drop i) st').bind fun ws st2 => .ok (.lst (acc ++ ws)) st2)) := ⟨_, rfl⟩
  obtain ⟨Iv, hIv⟩ := key
  have h0 : Iv 0 (upd H1 D (.lst [])) := by
    rw [hIv]
    exact ⟨Nat.zero_le _, ρ1.hide D, st1, [], [], Stp.hide hD, r1.hide hD, List.mem_cons_self, fun z => nD (.inl z), upd_same, .nil, Nat.zero_le _, by simpa using p1⟩
  refine ⟨fun i m H' => m = I.its.length - i ∧ Iv i H', ⟨I.its.length, by simp, h0⟩, ?_⟩
  rintro i m H' ⟨rfl, hiv⟩
  have hiv' := hiv
  rw [hIv] at hiv'
  obtain ⟨hi, ρ', st', acc, vs, s, r, hh, nDm, hDv, hacc, hal, p⟩ := hiv'
  by_cases hlt : i < I.its.length
  · rw [drop_at hlt] at p
    simp only [compL2] at p
    by_cases hg : gdok I st'
    case neg => rw [if_neg hg] at p; exact p.elim
    rw [if_pos hg] at p
    obtain ⟨go, yl⟩ := (wk i ρ' H' s.w (gdok_ok r hg)).1 hlt
    refine .inr ⟨go, Iv (i + 1), fun H'' h => ⟨I.its.length - (i + 1), by omega, rfl, h⟩, fun x H2 hy => ?_⟩
    obtain ⟨hH2, hv⟩ := yl x H2 hy
    have hvx := hv _ (List.getElem?_eq_getElem hlt)
    have s2r2 : Stp ρ' H' ρ' H2 ∧ Rep c ρ' fr st' σ H2 ∧ H2 D = some (.lst vs) := by
      rcases hH2 with e | ⟨T, o, hT, e⟩
      · subst e; exact ⟨Stp.refl _ _, r, hDv⟩
      · subst e; exact ⟨Stp.tmp hT, r.tmp hT, by rw [upd_ne (ne_of_none hDv hT)]; exact hDv⟩
    obtain ⟨s2, r2, hD2⟩ := s2r2
    cases ef : setTgt t I.its[i] (wipeF fr own) with
    | none => simp only [ef, R.bind_stuck] at p; exact p.elim
    | some fr1 =>
      simp only [ef] at p
      refine gTgt_ok (r2.wipe own) hvx ef hm fun σ2 r3 hw => ⟨by rw [hw, wipe_wipe], ρ', fr1, st', [], r3, .nil, ?_⟩
      intro ρ3 H3 s3 r3'
      have nD3 : D ∉ ρ3.m := s3.outm nDm (by rw [hD2]; simp)
      have hD3 : H3 D = some (.lst vs) := s3.keep D _ nDm hD2
      have s13 := s2.trans s3
      unfold PB
      refine iteT ?_
      refine ⟨ρ3, fr1, st', [], r3', .nil, ?_⟩
      show Pst c W0 ρ3 fr1 σ2 H3 _ (mi1 fr1 st')
      cases em : mi1 fr1 st' with
      | stuck => simp only [em, R.nox_stuck, R.bind_stuck] at p; exact p.elim
      | exc e st4 => simp only [em, R.nox_exc, R.bind_stuck] at p; exact p.elim
      | ok I1 st4 =>
        simp only [em, R.nox_ok, R.bind_ok] at p
        by_cases hl1 : I1.its.length ≤ 10000
        case neg => rw [if_neg hl1] at p; exact p.elim
        rw [if_pos hl1] at p
        intro ρ4 H4 s4 r4 J1 wk1
        have nD4 : D ∉ ρ4.m := s4.outm nD3 (by rw [hD3]; simp)
        have hD4 : H4 D = some (.lst vs) := s4.keep D _ nD3 hD3
        have s14 := s13.trans s4
        -- the inner loop
        have key1 : ∃ Iw : Nat → Hp → Prop, Iw = (fun j H' => j ≤ I1.its.length ∧ ∃ ρ5 st5 acc5 vs5, Stw ρ4 H4 ρ5 H' ∧ (∀ x, H4 x ≠ none → H' x ≠ none) ∧ Stp ρ1 H1 ρ5 H' ∧ Rep c ρ5 fr1 st5 σ2 H' ∧ D ∈ ρ5.h ∧ D ∉ ρ5.m ∧ H' D = some (.lst vs5) ∧ VRs c ρ5 H' acc5 vs5 ∧ acc5.length ≤ i * 10000 + j ∧
          Pst c W ρ1 fr σ H1 (PV c Q) (((compL I1 t1 mt1 me (wipeF fr1 own1) (I1.its.drop j) st5).bind fun us st6 => (compL2 I t mi1 t1 mt1 me own1 (wipeF fr own) (I.its.drop (i + 1)) st6).bind fun ws st7 => .ok (us ++ ws) st7).bind fun ws st8 => .ok (.lst (acc5 ++ ws)) st8)) := ⟨_, rfl⟩
        obtain ⟨Iw, hIw⟩ := key1
        have w0 : Iw 0 H4 := by
          rw [hIw]
          exact ⟨Nat.zero_le _, ρ4, st4, acc, vs, (Stp.refl _ _).w, fun _ z => z, s.trans s14, r4, s14.sub D hh, nD4, hD4, hacc.mono s14, by omega, by simpa using p⟩
        refine ⟨fun j k H' => k = I1.its.length - j ∧ Iw j H', ⟨I1.its.length, by simp, w0⟩, ?_⟩
        rintro j k H' ⟨rfl, hiw⟩
        rw [hIw] at hiw
        obtain ⟨hj, ρ5, st5, acc5, vs5, s5, lv5, so5, r5, hh5, nD5, hD5, hacc5, hal5, p5⟩ := hiw
        by_cases hlt1 : j < I1.its.length
        · rw [drop_at hlt1] at p5
          simp only [compL] at p5
          by_cases hg1 : gdok I1 st5
          case neg => rw [if_neg hg1] at p5; exact p5.elim
          rw [if_pos hg1] at p5
          obtain ⟨go1, yl1⟩ := (wk1 j ρ5 H' s5 (gdok_ok r5 hg1)).1 hlt1
          refine .inr ⟨go1, Iw (j + 1), fun H'' h => ⟨I1.its.length - (j + 1), by omega, rfl, h⟩, fun x1 H6 hy1 => ?_⟩
          obtain ⟨hH6, hv1⟩ := yl1 x1 H6 hy1
          have hvx1 := hv1 _ (List.getElem?_eq_getElem hlt1)
          have s6r6 : Stp ρ5 H' ρ5 H6 ∧ Rep c ρ5 fr1 st5 σ2 H6 ∧ H6 D = some (.lst vs5) := by
            rcases hH6 with e | ⟨T, o, hT, e⟩
            · subst e; exact ⟨Stp.refl _ _, r5, hD5⟩
            · subst e; exact ⟨Stp.tmp hT, r5.tmp hT, by rw [upd_ne (ne_of_none hD5 hT)]; exact hD5⟩
          obtain ⟨s6, r6, hD6⟩ := s6r6
          cases ef1 : setTgt t1 I1.its[j] (wipeF fr1 own1) with
          | none => simp only [ef1, R.bind_stuck] at p5; exact p5.elim
          | some fr7 =>
            simp only [ef1] at p5
            refine gTgt_ok (r6.wipe own1) hvx1 ef1 hm1 fun σ7 r7 hw1 => ⟨by rw [hw1, wipe_wipe], ρ5, fr7, st5, [], r7, .nil, ?_⟩
            show Pst c W0 ρ5 fr7 σ7 H6 _ (mt1 fr7 st5)
            cases et : mt1 fr7 st5 with
            | stuck => simp only [et, R.nox_stuck, R.bind_stuck] at p5; exact p5.elim
            | exc e st2 => simp only [et, R.nox_exc, R.bind_stuck] at p5; exact p5.elim
            | ok b st8 =>
              simp only [et, R.nox_ok, R.bind_ok] at p5
              intro ρ8 H8 s8 r8
              have nD8 : D ∉ ρ8.m := s8.outm nD5 (by rw [hD6]; simp)
              have hD8 : H8 D = some (.lst vs5) := s8.keep D _ nD5 hD6
              have s68 := s6.trans s8
              show if b = true then _ else _
              cases b with
              | false =>
                rw [if_neg Bool.false_ne_true] at p5 ⊢
                rw [hIw]
                exact ⟨hlt1, ρ8, st8, acc5, vs5, s5.stp s68 lv5, fun x z => s68.live x (lv5 x z), so5.trans s68, r5.back s68 r8, s68.sub D hh5, nD8, hD8, hacc5.mono s68, by omega, p5⟩
              | true =>
                rw [if_pos rfl] at p5 ⊢
                refine ⟨ρ8, fr7, st8, [], r8, .nil, ?_⟩
                show Pst c W0 ρ8 fr7 σ7 H8 _ (me fr7 st8)
                cases eme : me fr7 st8 with
                | stuck => simp only [eme, R.nox_stuck, R.bind_stuck] at p5; exact p5.elim
                | exc e st9 => simp only [eme, R.nox_exc, R.bind_stuck] at p5; exact p5.elim
                | ok v st9 =>
                  simp only [eme, R.nox_ok, R.bind_ok, R.bind_assoc] at p5
                  intro ρ9 H9 s9 r9 y hy9
                  have nD9 : D ∉ ρ9.m := s9.outm nD8 (by rw [hD8]; simp)
                  have hD9 : H9 D = some (.lst vs5) := s9.keep D _ nD8 hD8
                  have s69 := s68.trans s9
                  have hh9 : D ∈ ρ9.h := s69.sub D hh5
                  have nt : ∀ ws, H9 D ≠ some (.tup ws) := fun ws e => by rw [hD9] at e; cases e
                  refine ⟨vs5, hD9, ?_, ?_⟩
                  · have e1 := hacc5.len
                    have e2 : sizeLine = 16777216 := sizeLine_eq
                    omega
                  · rw [hIw]
                    have nt4 : ∀ ws, H4 D ≠ some (.tup ws) := fun ws e => by rw [hD4] at e; cases e
                    refine ⟨hlt1, ρ9, st9, acc5 ++ [v], vs5 ++ [y], (s5.stp s69 lv5).poke (s14.sub D hh) nt4, fun x z => live_upd x (s69.live x (lv5 x z)), (so5.trans s69).poke hD, (r5.back s69 r9).poke hh9 nD9 nt, hh9, nD9, upd_same, ((hacc5.mono s69).app (.cons hy9 .nil)).poke hh9 nt, by simp; omega, ?_⟩
                    have e : (fun (us : List AV) (st6 : Sto) => (((compL2 I t mi1 t1 mt1 me own1 (wipeF fr own) (I.its.drop (i + 1)) st6).bind fun ws st7 => R.ok (us ++ ws) st7).bind fun ws st8 => R.ok (AV.lst (acc5 ++ [v] ++ ws)) st8 : R AV)) = fun us st6 => (compL2 I t mi1 t1 mt1 me own1 (wipeF fr own) (I.its.drop (i + 1)) st6).bind fun ws st7 => R.ok (AV.lst (acc5 ++ (v :: us ++ ws))) st7 := by
                      funext us st6
                      simp [R.bind_assoc]
                    rw [R.bind_assoc, e]
                    exact p5
        · have e : j = I1.its.length := by omega
          subst e
          rw [List.drop_length] at p5
          simp only [compL] at p5
          by_cases hg1 : gdok I1 st5
          case neg => rw [if_neg hg1] at p5; exact p5.elim
          rw [if_pos hg1] at p5
          simp only [R.bind_ok] at p5
          refine .inl ⟨(wk1 _ ρ5 H' s5 (gdok_ok r5 hg1)).2 rfl, ?_⟩
          rw [hIv]
          refine ⟨hlt, ρ5, st5, acc5, vs5, so5, r1.back so5 r5, hh5, nD5, hD5, hacc5, by have : I1.its.length ≤ 10000 := hl1; omega, ?_⟩
          simpa [R.bind_assoc] using p5
  · have e : i = I.its.length := by omega
    subst e
    rw [List.drop_length] at p
    simp only [compL2] at p
    by_cases hg : gdok I st'
    case neg => rw [if_neg hg] at p; exact p.elim
    rw [if_pos hg] at p
    have p' : ∀ ρ' x H', Stp ρ1 H1 ρ' H' → Rep c ρ' fr st' σ H' → VR c ρ' H' (.lst (acc ++ [])) x → Q x H' := fun ρ' x H' a b d => p ρ' H' a b x d
    refine .inl ⟨(wk _ ρ' H' s.w (gdok_ok r hg)).2 rfl, p' (ρ'.drop D) (.ref D) H' (s.drop hD fun z => nD (.inr z)) r.drop (.lst (.inl hDv) (fun z => ?_) (by rw [List.append_nil]; exact hacc.drop))⟩
    rcases z with z | z
    · exact nDm z
    · have := (List.mem_filter.mp z).2
      simp at this
end
section
variable {X : Cx} {G : String → Option Addr} {W : WX} {elt tg iter tg1 iter1 : Expr} {ifs1 : List Expr} {scope : Scope} {own : List (Str × Nat)} {own1 : List Nat} {pos : Pos} {t t1 : Tgt} {mi mi1 : Fr → M Its} {mt1 : Fr → M Bool} {me : Fr → M AV}
theorem me_lc2 (hc : X.calm = true) (hN : X.N.Nodup) (hi : MI X G W tg iter mi) (ok : BlkOk X.N X.env.scope scope own) (hv : ∀ i ∈ own1, i ∈ own.map (·.2)) (hm : ∀ i ∈ t.ix, i ∈ own.map (·.2)) (hm1 : ∀ i ∈ t1.ix, i ∈ own1) (hg : BlkG X scope tg t)
    (hi1 : ∀ (s : Shared) (H : Hp) (C : Addr) (cl : List (Str × Addr)) (fp : List Addr), PI (X.blk s H scope (compEnvC scope cl C X.env) fp) tg1 iter1 (tMi (cx X G) W0 mi1)) (hg1 : BlkG X scope tg1 t1) (ht1 : BlkT X G scope ifs1 mt1) (he : BlkE X G scope elt me)
    (hs : ∀ x, foldedSetIterable iter X.env x = pure x := by intro _; rfl) (hs1 : ∀ env x, foldedSetIterable iter1 env x = pure x := by intro _ _; rfl) :
    ME X G W (.ListComp elt [⟨tg, iter, [], 0⟩, ⟨tg1, iter1, ifs1, 0⟩] scope pos) (mComp2 (own.map (·.2)) own1 t mi t1 mi1 mt1 me) :=
  pe_imp (pe_lc2 hc hN hi ok hv hg (fun _ _ _ _ _ => mts_nil) hi1 hg1 ht1 he hs hs1) fun σ H Q q => lc2Read hm hm1 q
end
end MM
set_option Elab.async false
set_option linter.all false
set_option maxRecDepth 100000
set_option maxHeartbeats 4000000
/-! The mirror's targets with a star: a, *b = a list or a tuple; a, b, c = a list. -/
namespace MM
open PySem PySem.Spec PyProof.Rows L2

section
variable {X : Cx} {pos : Pos}
theorem starNew {pins : List (Addr × Obj)} {s : Shared} {σ : L2.St} {H : Hp} {x : V} {xs : List V} {u : Value} {us : List Value} {Q : List V → Hp → Prop} {h₂ : Heap} {tk : Nat} (I : Inv X pins σ H s) (ru : RelV x u) (rv : Vals xs us) (hz : xs.length ≤ 16000)
    (he : ∀ b o, s.heap.get? b = some o → h₂.get? b = some o) (h : ∀ p, H p = none → Q [x, .ref p] (upd H p (.lst xs))) :
    wpAny (model X.prog X.w) X.A (newList us >>= fun d => pure ([u] ++ [d] ++ [])) (fun vs s' => ∃ ys H', Inv X pins σ H' s' ∧ Vals ys vs ∧ Q ys H') X.xe { s with heap := h₂, toks := tk } := by
  have I1 : Inv X pins σ H { s with heap := h₂, toks := tk } := I.kept he
  have e64 : sizeLine = 16777216 := sizeLine_eq
  have hl := rv.length
  refine wpAny_bind (wpAny_newList (wpAny_pure ?_) (by omega))
  have hoL : (h₂.push (seqObj "list" us.toArray 0)).get? h₂.objs.size = some (seqObj "list" us.toArray 0) := Heap.get?_push_size _ rfl
  have hp := I1.hok.fresh (a := h₂.objs.size) (Nat.le_refl _)
  exact ⟨[x, .ref h₂.objs.size], _, I1.laid (t' := tk) (fun b o e => Heap.get?_push_of_some _ e) (Nat.le_refl _)
    (show ObjOk X.prog X.w _ _ _ (.lst xs) from ⟨by omega, us, _, rv, hoL⟩), .cons ru (.cons rfl .nil), h _ hp⟩
theorem starL {pins : List (Addr × Obj)} {s : Shared} {σ : L2.St} {H : Hp} {a : Addr} {x : V} {xs : List V} {Q : List V → Hp → Prop} (hc : X.calm = true) (I : Inv X pins σ H s) (hq : SqL X.K H a (x :: xs)) (hz : xs.length ≤ 16000)
    (h : ∀ p, H p = none → Q [x, .ref p] (upd H p (.lst xs))) :
    wpAny (model X.prog X.w) X.A (unpackItems (.ref a) 2 (some 1)) (fun vs s' => ∃ ys H', Inv X pins σ H' s' ∧ Vals ys vs ∧ Q ys H') X.xe s := by
  have hh := I.ok.hd hc
  obtain ⟨its, rv, pl, _⟩ := I.list hq
  have e64 : sizeLine = 16777216 := sizeLine_eq
  cases rv with
  | @cons _ u _ us ru rv =>
  have hus := rv.length
  have hl : s.heap.IsList a (u :: us).toArray := by
    obtain ⟨o, m, e, c, d, q⟩ := pl
    exact ⟨o, e, c, m, q⟩
  have hlt : a ≠ s.heap.objs.size := by obtain ⟨o, ho, _⟩ := hl; exact Nat.ne_of_lt (Heap.lt_size ho)
  unfold unpackItems
  refine wpAny_bind ?_
  unfold notIterableAtAll
  refine wpAny_bind (wpAny_specialOf hl.typeIs slot_list_iter.lookup ?_)
  refine wpAny_pure ?_
  simp only [Bool.false_eq_true, if_false]
  refine wpAny_bind (wpAny_holding (wpAny_pyIter_list hl ?_))
  refine wpAny_bind (wpAny_holding (PySem.W.kun_draw hlt 1 0 _ _ ⟨_, Heap.get?_push_size _ rfl, rfl, rfl⟩ (hl.push _) (by simp) fun h₁ hit₁ hs₁ => ?_))
  have hl₁ : h₁.IsList a (u :: us).toArray := (hl.push _).extBut hs₁.extBut hlt
  rw [Nat.zero_add] at hit₁
  obtain ⟨oi, hoi, _⟩ := id hit₁
  obtain ⟨ol, hol, _⟩ := id hl₁
  rw [List.drop_zero]
  rw [if_neg (by simp)]
  refine wpAny_bind (wpAny_holding (PySem.W.kun_collect (s := { s with heap := h₁ }) (T := "list_iterator") (.inr (.inr (.inl rfl))) (Walks.list (A := X.A.in1) hh s.heap.objs.size a hlt (u :: us).toArray) (fun j u st => st.1.typeIs) (k := 1) (by simp) ⟨hit₁, hl₁⟩ (Heap.lt_size hoi) (Heap.lt_size hol) (fun h₂ tk hk => ?_) (by simp; omega)))
  have he : ∀ b o, s.heap.get? b = some o → h₂.get? b = some o := fun b o e => hk b o (Nat.ne_of_lt (Heap.lt_size e)) (hs₁.extBut b o (Nat.ne_of_lt (Heap.lt_size e)) (Heap.get?_push_of_some _ e))
  have hr : (u :: us).toArray.toList.drop 1 = us := by simp
  have hf : (u :: us).toArray.toList.take 1 = [u] := by simp
  rw [hr, hf]
  show wpAny _ _ (if us.length < 0 then _ else _) _ _ _
  rw [if_neg (by omega)]
  show wpAny _ _ (newList (us.take (us.length - 0)) >>= fun d => pure ([u] ++ [d] ++ us.drop (us.length - 0))) _ _ _
  rw [Nat.sub_zero, List.take_length, List.drop_length]
  exact starNew (s := s) (tk := tk) I ru rv hz he h
theorem starT {pins : List (Addr × Obj)} {s : Shared} {σ : L2.St} {H : Hp} {a : Addr} {x : V} {xs : List V} {Q : List V → Hp → Prop} (hc : X.calm = true) (I : Inv X pins σ H s) (hq : SqT X.K H a (x :: xs)) (hz : xs.length ≤ 16000)
    (h : ∀ p, H p = none → Q [x, .ref p] (upd H p (.lst xs))) :
    wpAny (model X.prog X.w) X.A (unpackItems (.ref a) 2 (some 1)) (fun vs s' => ∃ ys H', Inv X pins σ H' s' ∧ Vals ys vs ∧ Q ys H') X.xe s := by
  have hh := I.ok.hd hc
  obtain ⟨its, rv, hl, _⟩ := I.tuple hq
  have e64 : sizeLine = 16777216 := sizeLine_eq
  cases rv with
  | @cons _ u _ us ru rv =>
  have hus := rv.length
  have hlt : a ≠ s.heap.objs.size := by obtain ⟨o, ho, _⟩ := hl; exact Nat.ne_of_lt (Heap.lt_size ho)
  unfold unpackItems
  refine wpAny_bind ?_
  unfold notIterableAtAll
  refine wpAny_bind (wpAny_specialOf hl.typeIs slot_tuple_iter.lookup ?_)
  refine wpAny_pure ?_
  simp only [Bool.false_eq_true, if_false]
  refine wpAny_bind (wpAny_holding (iter_tuple hl ?_))
  refine wpAny_bind (wpAny_holding (draw_tuple hlt 1 0 _ _ ⟨_, Heap.get?_push_size _ rfl, rfl, rfl⟩ (hl.push _) (by simp) fun h₁ hit₁ hs₁ => ?_))
  have hl₁ : IsTup h₁ a (u :: us).toArray := (hl.push _).extBut hs₁.extBut hlt
  rw [Nat.zero_add] at hit₁
  obtain ⟨oi, hoi, _⟩ := id hit₁
  obtain ⟨ol, hol, _⟩ := id hl₁
  rw [List.drop_zero]
  rw [if_neg (by simp)]
  refine wpAny_bind (wpAny_holding (PySem.W.kun_collect (s := { s with heap := h₁ }) (T := "tuple_iterator") (.inr (.inr (.inr rfl))) (Walks.tuple (A := X.A.in1) hh s.heap.objs.size a hlt (u :: us).toArray) (fun j u st => st.1.typeIs) (k := 1) (by simp) ⟨hit₁, hl₁⟩ (Heap.lt_size hoi) (Heap.lt_size hol) (fun h₂ tk hk => ?_) (by simp; omega)))
  have he : ∀ b o, s.heap.get? b = some o → h₂.get? b = some o := fun b o e => hk b o (Nat.ne_of_lt (Heap.lt_size e)) (hs₁.extBut b o (Nat.ne_of_lt (Heap.lt_size e)) (Heap.get?_push_of_some _ e))
  have hr : (u :: us).toArray.toList.drop 1 = us := by simp
  have hf : (u :: us).toArray.toList.take 1 = [u] := by simp
  rw [hr, hf]
  show wpAny _ _ (if us.length < 0 then _ else _) _ _ _
  rw [if_neg (by omega)]
  show wpAny _ _ (newList (us.take (us.length - 0)) >>= fun d => pure ([u] ++ [d] ++ us.drop (us.length - 0))) _ _ _
  rw [Nat.sub_zero, List.take_length, List.drop_length]
  exact starNew (s := s) (tk := tk) I ru rv hz he h
/-- a, *b = a list or a tuple that isn't empty -/
def gStar (K : PySem.W.Frag) (t : TGs) : TG := fun v σ H Q => ∃ a x xs, v = .ref a ∧ (SqL K H a (x :: xs) ∨ SqT K H a (x :: xs)) ∧ xs.length ≤ 16000 ∧ ∀ p, H p = none → t [x, .ref p] σ (upd H p (.lst xs)) Q
theorem pg_star {es es' : List Expr} {k : Nat} {t : TGs} (hc : X.calm = true) (h : PGs X es' t)
    (hm : (assignEach es X.env).map (·.2) = (assignEach es' X.env).map (·.2) := by rfl) (hn : (assignEach es X.env).length = 2 := by rfl) (hst : (assignEach es X.env).findIdx? (·.1) = some 1 := by rfl) : PG X (.Tuple es k pos) (gStar X.K t) := by
  refine ⟨fun pins s σ H v u Q I r hw => ?_⟩
  obtain ⟨a, x, xs, e1, hq, hl, hw⟩ := hw
  subst e1
  cases r
  rw [PyProof.Rows.assign_Tuple]
  refine wpAny_bind (wpAny_standAt ?_)
  unfold unpack
  rw [hn, hst, hm]
  refine wpAny_bind (wpAny_holding ?_)
  have go : wpAny (model X.prog X.w) X.A (unpackItems (.ref a) 2 (some 1)) (fun vs s' => ∃ ys H', Inv X pins σ H' s' ∧ Vals ys vs ∧ t ys σ H' Q) X.xe s := by
    rcases hq with hq | hq
    · exact starL hc I hq hl fun p hp => hw p hp
    · exact starT hc I hq hl fun p hp => hw p hp
  exact thn go fun vs s' ⟨ys, H', I', rv, q⟩ => h.run pins _ σ H' ys vs Q I' rv q
end

/-- a, *b = v in the mirror -/
def gStarM (i j : Nat) : TgM := fun v fr st => match deV v with
  | some (_, x :: xs) => if xs.length ≤ 16000 then some ((fr.set i (some x)).set j (some (.lst xs)), st) else none
  | _ => none
/-- a, b, .. = v in the mirror -/
def gLstM (is : List Nat) : TgM := fun v fr st => match deV v with
  | some (false, xs) => if xs.length = is.length then some (setAll is xs fr, st) else none
  | _ => none
section
variable {X : Cx} {G : String → Option Addr} {W : WX} {tg e : Expr} {es es' : List Expr} {pos : Pos} {i j k : Nat} {is : List Nat}
theorem mg_star (hc : X.calm = true) (h : PGs X es' (gNames [i, j]))
    (hm : (assignEach es X.env).map (·.2) = (assignEach es' X.env).map (·.2) := by rfl) (hn : (assignEach es X.env).length = 2 := by rfl) (hst : (assignEach es X.env).findIdx? (·.1) = some 1 := by rfl) : MG X G (.Tuple es k pos) (gStarM i j) :=
  pg_imp (pg_star hc h hm hn hst) fun x σ H Q q => by
    obtain ⟨ρ, fr, st, v, fr1, st1, r, hv, e, q⟩ := q
    unfold gStarM at e
    split at e
    · rename_i b y ys hd
      split at e
      · rename_i hl
        cases e
        obtain ⟨a, vs, rfl, rs, hb⟩ := deV_ok hv hd
        cases rs with
        | @cons _ w _ ws ry rs =>
        refine ⟨a, w, ws, rfl, ?_, by rw [← rs.len]; exact hl, fun p hp => ?_⟩
        · rcases hb with ⟨_, hb, _⟩ | ⟨_, hb, _⟩
          · exact .inr hb
          · exact .inl (.inl hb)
        · have s := Stp.tmp (ρ := ρ) (o := .lst ws) hp
          have r1 := r.tmp (o := .lst ws) hp
          refine gNames_ok (is := [i, j]) (vs := [i, j]) (st := st) (xs := [y, .lst ys]) (fr := fr) r1 (.cons (ry.mono s) (.cons (.lst (.inl upd_same) (r.notin hp) (rs.mono s)) .nil)) rfl (fun _ h => h) fun σ' r' _ => q ρ σ' _ s r'
      · cases e
    · cases e
theorem mg_lst (hc : X.calm = true) (h : PGs X es (gNames is))
    (hn : (assignEach es X.env).length = is.length := by rfl) (hst : (assignEach es X.env).findIdx? (·.1) = none := by rfl) : MG X G (.Tuple es k pos) (gLstM is) :=
  pg_imp (pg_unl (n := is.length) hc h hn hst) fun x σ H Q q => by
    obtain ⟨ρ, fr, st, v, fr1, st1, r, hv, e, q⟩ := q
    unfold gLstM at e
    split at e
    · rename_i ys hd
      split at e
      · rename_i hl
        cases e
        obtain ⟨a, vs, rfl, rs, hb⟩ := deV_ok hv hd
        rcases hb with ⟨hb, _, _⟩ | ⟨_, hb, _⟩
        · cases hb
        · exact ⟨a, vs, rfl, .inl hb, by rw [← rs.len]; exact hl, gNames_ok (vs := is) r rs hl (fun _ h => h) fun σ' r' _ => q ρ σ' H (Stp.refl _ _) r'⟩
      · cases e
    · cases e
end
end MM
set_option Elab.async false
set_option linter.all false
set_option maxRecDepth 100000
set_option maxHeartbeats 4000000
/-! The mirror's t[::-1] of tuples. -/
namespace MM
open PySem PySem.Spec PyProof.Rows L2
open HT in
theorem revPick (xs : Array Value) : ((List.range xs.size).filterMap fun (m : Nat) => xs[(((xs.size : Int) - 1) + (m : Int) * (-1)).toNat]?) = xs.toList.reverse := by
  have e : ∀ l : List Nat, (∀ m ∈ l, m < xs.size) → (l.filterMap fun (m : Nat) => xs[(((xs.size : Int) - 1) + (m : Int) * (-1)).toNat]?) = (l.map fun m => xs.size - 1 - m).filterMap (xs[·]?) := fun l => by
    induction l with
    | nil => intro _; rfl
    | cons m l ih =>
      intro hl
      have h := hl m List.mem_cons_self
      have q : (((xs.size : Int) - 1) + (m : Int) * (-1)).toNat = xs.size - 1 - m := by omega
      have ih := ih fun k hk => hl k (List.mem_cons_of_mem _ hk)
      simp only [List.map_cons, List.filterMap_cons, q]
      rw [ih]
  rw [e _ fun m hm => List.mem_range.mp hm, PySem.W.krv_range, List.filterMap_reverse, PySem.W.krv_all]
section
variable {prog : Program} {w : World} {A : Around} {E : Value → Shared → Prop} {s : Shared}
theorem rev_adjust (n : Nat) : Builtin.Slice.sliceAdjust none none (-1) (n : Int) = ((n : Int) - 1, -1) := by
  unfold Builtin.Slice.sliceAdjust
  have h1 : ((-1 : Int) < 0) := by omega
  simp only [h1, if_true]
theorem rev_places (n : Nat) : Builtin.Slice.slicePlaces ((n : Int) - 1) (-1) (-1) = n := by
  unfold Builtin.Slice.slicePlaces
  have h1 : ¬ ((-1 : Int) > 0) := by omega
  simp only [h1, if_false]
  by_cases h : (n : Int) - 1 > -1
  · rw [if_pos h, show (- -1 : Int) = 1 by decide, Int.ediv_one]
    omega
  · rw [if_neg h]
    omega
theorem sliceApplied_rev {sl : Addr} {vl vu vs : Value} {n : Nat} {Q : Int × Int × Nat → Shared → Prop} (hs : s.heap.IsSliceOf sl vl vu vs) (pl : IsPart vl none) (pu : IsPart vu none) (ps : IsPart vs (some (-1)))
    (h : Q ((n : Int) - 1, -1, n) s) : wpAny (model prog w) A (Builtin.Slice.sliceApplied (.ref sl) (pure (n : Int))) Q E s := by
  obtain ⟨os, hos, hcs, hds⟩ := id hs
  unfold Builtin.Slice.sliceApplied Builtin.Slice.sliceFields
  refine wpAny_bind (wpAny_bind (wpAny_field hos hds (x := vl) rfl (wpAny_bind (wpAny_field hos hds (x := vu) rfl (wpAny_bind (wpAny_field hos hds (x := vs) rfl (wpAny_pure ?_)))))))
  refine wpAny_bind (HT.slicePart_ ps ?_)
  show wpAny _ _ (if ((-1 : Int) == 0) = true then _ else _) _ _ s
  rw [if_neg (by decide)]
  refine wpAny_bind (HT.slicePart_ pl (wpAny_bind (HT.slicePart_ pu (wpAny_bind (wpAny_pure ?_)))))
  show wpAny _ _ (match Builtin.Slice.sliceAdjust none none (-1) (n : Int) with | (lo, hi) => pure (lo, (-1 : Int), Builtin.Slice.slicePlaces lo hi (-1))) _ _ s
  rw [rev_adjust n]
  show wpAny _ _ (pure ((n : Int) - 1, (-1 : Int), Builtin.Slice.slicePlaces ((n : Int) - 1) (-1) (-1))) _ _ s
  rw [rev_places]
  exact wpAny_pure h
theorem getItem_tuple_rev {t sl : Addr} {items : Array Value} {vl vu vs : Value} {Q : Value → Shared → Prop} (ht : IsTup s.heap t items) (hs : s.heap.IsSliceOf sl vl vu vs) (pl : IsPart vl none) (pu : IsPart vu none) (ps : IsPart vs (some (-1)))
    (h : Q (.ref s.heap.objs.size) { s with heap := s.heap.push { cls := .type "tuple", data := .seq items.toList.reverse.toArray } })
    (hsz : items.size ≤ sizeLine) : wpAny (model prog w) A (getItem (.ref t) (.ref sl)) Q E s := by
  have htake : sizeOk (.seq (items.toList.reverse).toArray) := by
    show (items.toList.reverse).toArray.size ≤ sizeLine
    rw [List.size_toArray, List.length_reverse, Array.length_toList]
    omega
  obtain ⟨os, hos, hcs, hds⟩ := id hs
  have hTs : s.TypeIs (.ref sl) "slice" := ⟨os, hos, hcs⟩
  unfold getItem
  try with_reducible refine wpAny_holding ?_
  first | refine wpAny_bind (wpAny_pure ?_) | skip
  refine wpAny_bind (wpAny_sequenceKey ht.typeIs (by decide) ?_)
  refine wpAny_bind (wpAny_callSpecial?_slot (name := Str.ofString "__getitem__") ht.typeIs PyProof.Rows.slot_tuple_getitem
    (wpAny_call_entry PyProof.Rows.slot_tuple_getitem ht.typeIs entry_tuple_getitem ?_ (args_tuple_getitem _ _)))
  show wpAny _ _ (Builtin.Tuple.tupleItemsOf (.ref t) >>= _) _ _ s
  refine wpAny_bind (tupleItemsOf_ ht ?_)
  refine wpAny_bind (wpAny_typeOf hTs ?_)
  rw [if_pos (by decide)]
  refine wpAny_bind (sliceApplied_rev hs pl pu ps ?_)
  show wpAny _ _ (if (((items.size : Int) - 1) == 0 && (-1 : Int) == 1 && items.size == items.size) = true then _ else _) _ _ s
  rw [if_neg (by simp), revPick]
  first
    | exact wpAny_bind (m := Builtin.Tuple.tupleExact _) (wpAny_newObj_type (wpAny_pure ⟨_, rfl, wpAny_pure h⟩) htake)
    | exact wpAny_bind (m := Builtin.Tuple.tupleExact _) (wpAny_newObj_type (wpAny_bind (wpAny_pure (wpAny_pure ⟨_, rfl, wpAny_pure h⟩))) htake)
    | exact wpAny_bind (wpAny_bind (m := Builtin.Tuple.tupleExact _) (wpAny_newObj_type (wpAny_pure (wpAny_pure ⟨_, rfl, wpAny_pure h⟩)) htake))
    | exact wpAny_bind (wpAny_bind (m := Builtin.Tuple.tupleExact _) (wpAny_newObj_type (wpAny_pure ⟨_, rfl, wpAny_pure h⟩) htake))
end
section
variable {X : Cx} {G : String → Option Addr} {W : WX} {e : Expr} {te : TE} {ma : Fr → M AV}
def tRevT (K : PySem.W.Frag) (te : TE) : TE := fun σ H Q => te σ H fun x H1 => ∃ a xs, x = .ref a ∧ SqT K H1 a xs ∧ ∀ p, H1 p = none → Q (.ref p) (upd H1 p (.tup xs.reverse))
theorem pe_revT {k : Nat} {p1 p2 p3 pos : Pos} (he : PE X e te) : PE X (.Subscript e (.Slice none none (some (.UnaryOp .USub (.Constant (.int 1) k p1) p2)) p3) pos) (tRevT X.K te) := by
  refine ⟨fun pins s σ H Q I h => ?_⟩
  refine Subscript_ (thn (he.run pins s σ H _ I h) fun v s1 ⟨x, H1, I1, r1, q1⟩ => ?_)
  obtain ⟨a, xs, ex, hx, q⟩ := q1
  subst ex
  cases r1
  have hst : PO X (some (.UnaryOp .USub (.Constant (.int 1) k p1) p2)) (tPart (tUn (rU fun i => .int (-i)) (tC (.int 1)))) := po_some (pe_un un_neg pe_int)
  refine wpAny_Slice (thn (po_none.run pins s1 σ H1 (fun o H2 => o = none ∧ H2 = H1) I1 ⟨rfl, rfl⟩) fun vl s2 ⟨l, H2, I2, pl, el, e2⟩ => ?_)
  subst el e2
  refine thn (po_none.run pins s2 σ H2 (fun o H3 => o = none ∧ H3 = H2) I2 ⟨rfl, rfl⟩) fun vu s3 ⟨u, H3, I3, pu, eu, e3⟩ => ?_
  subst eu e3
  refine thn (hst.run pins s3 σ H3 (fun o H4 => o = some (-1) ∧ H4 = H3) I3 ⟨1, rfl, -1, rfl, rfl, rfl⟩) fun vs s4 ⟨o, H4, I4, ps, eo, e4⟩ => ?_
  subst eo e4
  have I5 : Inv X pins σ H4 { s4 with heap := s4.heap.push { cls := .type "slice", data := .fields #[vl, vu, vs] } } := I4.kept (t' := s4.toks) fun b ob q => Heap.get?_push_of_some _ q
  obtain ⟨its, r, ht, hz⟩ := I5.tuple hx
  have hlen := r.length
  show wpAny (model X.prog X.w) X.A (subscriptTail e (.Slice none none (some (.UnaryOp .USub (.Constant (.int 1) k p1) p2)) p3) (.ref a) (.ref s4.heap.objs.size)) (EP X pins σ Q) X.xe { s4 with heap := s4.heap.push { cls := .type "slice", data := .fields #[vl, vu, vs] } }
  refine tail_any (ops := [.ref a, .ref s4.heap.objs.size]) ht.typeIs (PyProof.Rows.slot_tuple_getitem.lookup) ?_ (by with_unfolding_all rfl)
  refine getItem_tuple_rev ht (Heap.IsSliceOf.new _ vl vu vs) pl pu ps ?_ (by rw [List.size_toArray]; omega)
  refine ⟨.ref _, _, I5.laid (t' := s4.toks) (o := .tup xs.reverse) (fun b ob q => Heap.get?_push_of_some _ q) (Nat.le_refl _) ?_, rfl, q _ (I5.hok.fresh (Nat.le_refl _))⟩
  exact ⟨by rw [List.length_reverse]; exact hz, _, r.reverse, IsTup.new _ _⟩
theorem VRs.rev {c : MC} {ρ : Rho} {H : Hp} : ∀ {xs : List AV} {vs : List V}, VRs c ρ H xs vs → VRs c ρ H xs.reverse vs.reverse
  | _, _, .nil => .nil
  | _, _, .cons h r => by
    rw [List.reverse_cons, List.reverse_cons]
    exact (VRs.rev r).app (.cons h .nil)
def mRevT (m : Fr → M AV) : Fr → M AV := fun fr st => (m fr st).bind fun v st1 => match deT v with
  | some xs => .ok (.tup xs.reverse) st1
  | none => .stuck
theorem me_revT {k : Nat} {p1 p2 p3 pos : Pos} (he : ME X G W e ma) : ME X G W (.Subscript e (.Slice none none (some (.UnaryOp .USub (.Constant (.int 1) k p1) p2)) p3) pos) (mRevT ma) := pe_imp (pe_revT he) fun σ H Q q => by
  have q1 := bindV (c := cx X G) (W := W) (σ := σ) (H := H) (P := PV (cx X G) Q) (vs := []) (m := ma) (k := ap1 fun v st1 => match deT v with
    | some xs => .ok (.tup xs.reverse) st1
    | none => .stuck) (tG.nil q)
  refine tG.imp q1 fun v ρ H1 h x hx => ?_
  obtain ⟨ρ, fr, st, v, r, hv, p⟩ := (h x hx).un1
  split at p
  · rename_i xs hd
    obtain ⟨a, vs, rfl, hs, hr⟩ := deT_ok hv hd
    exact ⟨a, vs, rfl, hs, fun p' hp => newTup r hr.rev hp p⟩
  · exact p.elim
end
end MM
set_option Elab.async false
set_option linter.all false
set_option maxRecDepth 100000
set_option maxHeartbeats 4000000
/-! The mirror's repr(a list of data). -/
namespace MM
open PySem PySem.Spec PyProof.Rows L2
/-- may be shown: no dict, short numbers, not too deep -/
def shOk (d : PyData) : Bool := d.showable && (d.leavesShort 8 && (decide (d.weight ≤ 2 ^ 20) && (!d.hasDict && decide (d.depth ≤ 60))))
def rRepr (K : PySem.W.Frag) : List V → Hp → VK → Prop := fun xs H Q => ∃ a ds, xs = [V.ref a] ∧ Dp K H (.ref a) (.list ds) ∧ shOk (.list ds) = true ∧ Q (.str (PyData.list ds).shown) H
section
variable {X : Cx} {G : String → Option Addr} {W : WX}
theorem call_repr (hg : X.A.guards = some []) (hu : X.A.units + 65 < cLine) : CallR X (.builtin "repr") (rRepr X.K) := by
  intro pins s σ H xs us Q I r q
  obtain ⟨a, ds, rfl, hd, hk, q⟩ := q
  obtain ⟨u, rfl, ru⟩ := vals1 r
  obtain rfl : u = Value.ref a := ru
  obtain ⟨as, rd⟩ := Dp.reads I (.list ds) (.ref a) (.ref a) hd rfl
  simp only [shOk, Bool.and_eq_true, decide_eq_true_eq, Bool.not_eq_true'] at hk
  obtain ⟨k1, k2, k3, k4, k5⟩ := hk
  exact repr_of_reads' rd k1 (fun z => by rw [k4] at z; cases z) hg (by omega) (fun _ _ e => e) (fun h' t tk hk => ⟨.str (PyData.list ds).shown, H, I.kept hk, ⟨t, rfl⟩, q⟩) (PyData.shown_fits (Nat.le_refl 8) (by omega) k2 k3)
def reprM : List AV → M AV := fun vs st => match vs with
  | [v] => (match pdS st v with
    | some (.list ds) => if shOk (.list ds) = true then .ok (.str (PyData.list ds).shown) st else .stuck
    | _ => .stuck)
  | _ => .stuck
theorem ol_repr : OpL X G W (rRepr X.K) reprM := fun xs σ H Q q => by
  obtain ⟨ρ, fr, st, avs, r, hv, p⟩ := q.unL
  unfold reprM at p
  split at p
  · cases hv with
    | cons h t =>
      cases t
      split at p
      · rename_i ds hd
        split at p
        · rename_i hk
          have dp := (pdS_ok r h hd).1
          cases dp with
          | lst hs ha => exact ⟨_, ds, rfl, .lst hs ha, hk, p ρ H (Stp.refl _ _) r _ (.str _)⟩
        · exact p.elim
      · exact p.elim
  · exact p.elim
end
end MM
set_option Elab.async false
set_option linter.all false
set_option maxRecDepth 100000
set_option maxHeartbeats 4000000
/-! A law's def, promised at the caller alone (whose guards are known). -/
namespace MM
open PySem PySem.Spec PyProof.Rows L2
/-- the promise of a def that is called by the caller alone -/
structure TopOk (P : Program) (w : World) (K : PySem.W.Frag) (mg : Str → Option Value) (base : Heap) (f : Addr) (fd : FuncData) (ps : List Str) (sp : Sp) : Prop where
  run : ∀ (s : Shared) (H : Hp) (args : Args) (us : List Value) (vs : List V) (Q : VK) (E : XK), Env0 P w K mg base callerA [] s H → BindsTo s fd args (ps.zip us) → Vals vs us → sp vs H Q E →
    codeAny (model P w) callerA (.call (.ref f) args) (CR CX0 [] P w H s Q E) s
section
variable {P : Program} {w : World} {K : PySem.W.Frag} {mg : Str → Option Value} {base : Heap} {x qual : Str} {params : Arguments} {body : List Stmt} {scope : Scope} {dvs : List V} {kws : List (Str × V)} {f : Addr} {fd : FuncData} {N ps : List Str} {k : Nat} {sp : Sp}
theorem topOk (hk : Room (k + 1) callerA) (F : FunD K x qual params body scope dvs kws f fd) (S : FnScope N ps scope) (len : ∀ vs H Q E, sp vs H Q E → vs.length = ps.length)
    (hbody : ∀ (cdv : Value) (s : Shared) (H : Hp) (vs : List V) (Q : VK) (E : XK), Room k (callerA.deeper (envOfC qual scope s.heap.objs.size f cdv)) → sp vs H Q E →
      ∃ t, PSs (cxOf CX0 P w K mg base N qual scope f cdv callerA [] s H E) body t ∧ t { nx := fun _ H' => Q .non H', rt := Q } (L2.start N vs) H) : TopOk P w K mg base f fd ps sp := by
  obtain ⟨oc, od, dV, kV, doc, pm, an, cdv, ct, osl, rfl, lk, hcd, _, _⟩ := F.ex
  refine ⟨fun s H args us vs Q E e0 hb r hsp => ?_⟩
  have inB : K.In s.heap := e0.mod.kin.keeps fun b o e => (e0.bs b o e).1
  have noL : s.heap.NoLimit := e0.mod.nolimit.keeps fun b o e => (e0.bs b o e).1
  have kinds : ∀ y ∈ ps.zip us, scope.names.lookup y.1 = some .local ∨ (scope.names.lookup y.1 = some .cell ∧ ((cellsFrom (s.heap.objs.size + 1) scope.names []).lookup y.1).isSome = true) := fun y hy => (S.par y.1 (List.of_mem_zip hy).1).imp id fun q => ⟨q, PySem.W.cellsFrom_some _ _ _ (.inl q)⟩
  refine codeAny_call_function hk.depth (inB _ _ lk) rfl S.co S.gen rfl (PySem.W.codeRec_of inB hcd) (hb _ _ _ _ (wpAny_newFunctionEnv_cells S.kind kinds fun env he s1 y => ?_))
  subst he
  obtain ⟨t, ht, hq⟩ := hbody cdv s H vs Q E (hk.deeper _) hsp
  refine ⟨noL.keeps y.toInCall.keep, codeAny_func (wpAny_mono (ht.run [] s1 (L2.start N vs) H _ (inv_start S hk.hd e0 (len _ _ _ _ hsp) r y) hq) (fun fl s' hs => ?_) fun e s' hs => hs)⟩
  cases fl with
  | ret u => exact let ⟨v, σ', H', J, rv, q⟩ := hs; ⟨v, H', J.os, J.bare, J.base, J.hok, rv, q⟩
  | next => exact let ⟨σ', H', J, q⟩ := hs; ⟨V.non, H', J.os, J.bare, J.base, J.hok, rfl, q⟩
  | brk => exact (let ⟨_, _, _, q⟩ := hs; q : False).elim
  | cont => exact (let ⟨_, _, _, q⟩ := hs; q : False).elim
/-- what is tracked at the law's start: nothing, or the script as it stands -/
theorem topRun {mb : Str → Option Value} {a : Addr} {s : Shared} {vs : List Value} {sp : Sp} (KX : K.In s.heap) (hm : s.heap.Ns mainGlobals mg) (hb : s.heap.Ns builtinsNs mb) (hbb : ∀ x : Str, x ≠ "__name__" → mb x = bootBuiltins x) (hlim : s.heap.NoLimit) (hg : s.gens = #[])
    (ha : s.heap.get? a = some { cls := .type "list", data := .seq vs.toArray })
    (F : ∀ base : Heap, K.In base → base.Ns mainGlobals mg → TopOk P w K mg base f fd [x] sp) (hbind : ∀ (s : Shared) (u : Value), BindsTo s fd ⟨[u], []⟩ [(x, u)])
    (H : Hp) (hO : Only H) (hsp : sp [.ref a] H (fun v _ => v = .bl true) fun _ _ _ => False) (hok : HOk P w H s.heap) (at_a : ∀ b, H b ≠ none → b = a ∧ K.lookup b = none) :
    codeAny (model P w) callerA (.call (.ref f) ⟨[.ref a], []⟩) (fun r s' => r = .ok (.ret (.bool true)) ∧ OldK s.heap s'.heap ∧ s'.os = s.os ∧ AllBare s'.gens) s := by
  -- what isn't the script lies in the base
  have plain : ∀ {b : Addr} {o : Obj}, s.heap.get? b = some o → (∀ n, o.data ≠ .seq vs.toArray n) → (hidT s.heap H).get? b = some o := fun {b o} e nd => by
    refine hidT_get e ?_
    cases q : H b with
    | none => rfl
    | some u =>
      obtain ⟨rfl, _⟩ := at_a b (by rw [q]; simp)
      rw [ha] at e
      cases e
      exact (nd _ rfl).elim
  have ns : ∀ {b : Addr} {m : Str → Option Value}, s.heap.Ns b m → (hidT s.heap H).Ns b m := fun ⟨o, es, ep, e, d, q⟩ => ⟨o, es, ep, plain e (fun n z => by rw [d] at z; cases z), d, q⟩
  have kb : K.In (hidT s.heap H) := fun b o e => hidT_get (KX b o e) (by
    cases q : H b with
    | none => rfl
    | some u =>
      have z := (at_a b (by rw [q]; simp)).2
      rw [e] at z
      cases z)
  obtain ⟨mc, h1, h2⟩ := hlim
  have e0 : Env0 P w K mg (hidT s.heap H) callerA [] s H := ⟨rfl, ⟨kb, ns hm, ⟨mb, ns hb, hbb⟩, ⟨mc, ns h1, h2⟩⟩, fun b o e => of_hidT e, Nat.le_of_eq (hidT_size _ _), trivial, fun b hb => (by cases (show b ∈ ([] : List Addr) from hb)), hok, .of_eq hg⟩
  refine codeAny_mono ((F _ kb (ns hm)).run s H ⟨[.ref a], []⟩ [.ref a] [.ref a] _ _ e0 (hbind s (.ref a)) (.cons rfl .nil) hsp) fun r s' h => ?_
  cases r with
  | error e => exact (show False from h).elim
  | ok fl =>
    cases fl with
    | next => exact (show False from h).elim
    | brk => exact (show False from h).elim
    | cont => exact (show False from h).elim
    | ret u =>
      obtain ⟨v, H', os, bare, un, hok', rv, q⟩ := h
      obtain rfl : v = .bl true := q
      obtain rfl : u = Value.bool true := rv
      refine ⟨rfl, OldK.of_keep fun b o e => ?_, os, bare⟩
      rcases hO b with z | ⟨ob, xs, z⟩
      · exact un.keep b o e z (fun z => by cases (show b ∈ ([] : List Addr) from z)) (by simp)
      · have e1 := (hok b _ z).1
        rw [e] at e1
        cases e1
        exact (hok' b _ (un.frzs b _ _ z)).1
end
/-- THE END over a head by facts, for a def promised at the caller alone -/
theorem top_walk {l : PySem.W.OpenLaw} {n : Nat} {q : Program} {loose : List Str} {XP : (Str → Option Value) → Heap → Prop} {YP : World → Heap → Prop} {d : DefRec} {x : Str}
    (hn : l.most = some n) (hn2 : n ≤ sizeLine) (hdf : d.params.defaults = [])
    (F : ∀ (w : World) (mg : Str → Option Value) (fa : Addr) (h : Heap), YP w h → h.Ns mainGlobals mg → mg d.name = some (.ref fa) →
      ∃ (K : PySem.W.Frag) (fd : FuncData) (sp : Sp), K.In h ∧ (∀ (s : Shared) (u : Value), BindsTo s fd ⟨[u], []⟩ [(x, u)]) ∧
        (∀ (H : Hp) (a : Addr) (ns : List Int), ns.length ≤ n → Only H → SqL K H a (ns.map V.int) → sp [.ref a] H (fun v _ => v = .bl true) fun _ _ _ => False) ∧
        ∀ base : Heap, K.In base → base.Ns mainGlobals mg → TopOk l.prog w K mg base fa fd [x] sp) :
    PySem.W.WalkO q loose XP YP l.row.toRowW d [] (fun f vs => PySem.call f vs) := by
  refine Att.attach_call hn hdf fun w s₀ s mg mb fa o pm cd doc a vs ns G Y ho hd hcd hmg hobj hints hlen hg => ?_
  obtain ⟨K, fd, sp, KX, hb, hsp, hF⟩ := F w mg fa _ Y G.T.g hmg
  have lenV := hints.length
  have rv := vals_ints hints
  have go := topRun (x := x) KX G.T.g G.T.b G.T.builtins G.T.nolimit hg hobj hF hb
  have short : ns.length ≤ sizeLine := Nat.le_trans hlen hn2
  cases hk : K.lookup a with
  | some o1 =>
    have e := KX a o1 hk
    rw [hobj] at e
    cases e
    have hO : Only fun _ => none := fun _ => .inl rfl
    exact go (fun _ => none) hO (hsp _ a ns hlen hO (.inr ⟨_, vs.toArray, _, hk, rfl, rfl, rfl, by rw [List.size_toArray, lenV]; exact short, by simpa using rv⟩)) (fun b u z => by cases (show (none : Option HO) = some u from z)) fun b z => absurd rfl z
  | none =>
    have one : ∀ b u, (fun b => if b = a then some (HO.frz { cls := .type "list", data := .seq vs.toArray } (.lst (ns.map V.int))) else none : Hp) b = some u → b = a ∧ u = HO.frz { cls := .type "list", data := .seq vs.toArray } (.lst (ns.map V.int)) := fun b u z => by
      by_cases hb : b = a
      · exact ⟨hb, (Option.some.inj ((if_pos hb).symm.trans z)).symm⟩
      · cases (if_neg hb).symm.trans z
    have hO : Only fun b => if b = a then some (HO.frz { cls := .type "list", data := .seq vs.toArray } (.lst (ns.map V.int))) else none := fun b => by
      by_cases hb : b = a
      · exact .inr ⟨_, _, if_pos hb⟩
      · exact .inl (if_neg hb)
    refine go _ hO (hsp _ a ns hlen hO (.inl (.inr ⟨_, if_pos rfl⟩))) (fun b u z => ?_) fun b z => ?_
    · obtain ⟨rfl, rfl⟩ := one b u z
      exact ⟨hobj, by rw [List.length_map]; exact short, vs, _, rv, hobj⟩
    · cases q : (fun b => if b = a then some (HO.frz { cls := .type "list", data := .seq vs.toArray } (.lst (ns.map V.int))) else none : Hp) b with
      | none => exact absurd q z
      | some u =>
        obtain ⟨rfl, _⟩ := one b u q
        exact ⟨rfl, hk⟩
end MM
set_option Elab.async false
set_option linter.all false
set_option maxRecDepth 100000
set_option maxHeartbeats 4000000
/-! The mirror's tables of the module (a written dict with text keys), and calls of what a local name holds. -/
namespace MM
open PySem PySem.Spec PyProof.Rows L2
def tabAt (kvs : List (Str × AV)) (z : Str) : Option AV := (kvs.find? fun q => decide (q.1 = z)).map (·.2)
/-- the table of the name x holds (at least) kvs -/
structure TabOk (X : Cx) (G : String → Option Addr) (x : String) (d : Addr) (kvs : List (Str × AV)) : Prop where
  at_ : G x = some d
  dict : ∃ es n, KDict X.K X.w d es n
  val : ∀ q ∈ kvs, ∃ u v, PySem.W.nsIn X.K d q.1 = some (some u) ∧ RelV v u ∧ ∀ ρ H, VR (cx X G) ρ H q.2 v
def notTabM (x : String) (kvs : List (Str × AV)) : AV → AV → M AV := fun v o st => match v, o with
  | .str z, .glo y => if y = x then (match tabAt kvs z with
    | some _ => .ok (.bl false) st
    | none => .stuck) else .stuck
  | _, _ => .stuck
def ixTabM (x : String) (kvs : List (Str × AV)) : AV → AV → M AV := fun o v st => match o, v with
  | .glo y, .str z => if y = x then (match tabAt kvs z with
    | some w => .ok w st
    | none => .stuck) else .stuck
  | _, _ => .stuck
section
variable {X : Cx} {G : String → Option Addr} {W : WX} {x : String} {d : Addr} {kvs : List (Str × AV)} {e a b : Expr} {es : List Expr} {pos p : Pos} {ma mb : Fr → M AV}
theorem TabOk.find (T : TabOk X G x d kvs) {z : Str} {w : AV} (h : tabAt kvs z = some w) : ∃ u v, PySem.W.nsIn X.K d z = some (some u) ∧ RelV v u ∧ ∀ ρ H, VR (cx X G) ρ H w v := by
  obtain ⟨q, h1, rfl⟩ := Option.map_eq_some_iff.mp h
  obtain ⟨u, v, e1, e2, e3⟩ := T.val q (List.mem_of_find?_eq_some h1)
  have h2 := List.find?_some h1
  simp only [decide_eq_true_eq] at h2
  exact ⟨u, v, by rw [← h2]; exact e1, e2, e3⟩
theorem o_notTab (T : TabOk X G x d kvs) : Op2 X G W (fun x y H Q => ∃ (z : Str) (r : Option Value), x = .str z ∧ y = .ref d ∧ PySem.W.nsIn X.K d z = some r ∧ Q (.bl (!r.isSome)) H) (notTabM x kvs) := fun y1 y2 σ H Q q => by
  obtain ⟨ρ, fr, st, v, w, r, hv, hw, p⟩ := q.un2
  unfold notTabM at p
  cases hv with
  | str z =>
    cases hw with
    | @glo y a' hy =>
      simp only at p
      split at p
      · rename_i e
        subst e
        cases et : tabAt kvs z with
        | none => rw [et] at p; exact p.elim
        | some w =>
          rw [et] at p
          obtain ⟨u, v, e1, _, _⟩ := T.find et
          have e0 : some _ = some _ := hy.symm.trans T.at_
          cases e0
          exact ⟨z, some u, rfl, rfl, e1, p ρ H (Stp.refl _ _) r _ (.bl _)⟩
      · exact p.elim
    | _ => exact p.elim
  | _ => exact p.elim
theorem o_ixTab (T : TabOk X G x d kvs) : Op2 X G W (fun x y H Q => ∃ (z : Str) (u0 : Value) (v0 : V), x = .ref d ∧ y = .str z ∧ PySem.W.nsIn X.K d z = some (some u0) ∧ RelV v0 u0 ∧ Q v0 H) (ixTabM x kvs) := fun y1 y2 σ H Q q => by
  obtain ⟨ρ, fr, st, v, w, r, hv, hw, p⟩ := q.un2
  unfold ixTabM at p
  cases hv with
  | @glo y a' hy =>
    cases hw with
    | str z =>
      simp only at p
      split at p
      · rename_i e
        subst e
        cases et : tabAt kvs z with
        | none => rw [et] at p; exact p.elim
        | some w =>
          rw [et] at p
          obtain ⟨u, v, e1, e2, e3⟩ := T.find et
          have e0 : some _ = some _ := hy.symm.trans T.at_
          cases e0
          exact ⟨z, u, v, rfl, rfl, e1, e2, p ρ H (Stp.refl _ _) r _ (e3 ρ H)⟩
      · exact p.elim
    | _ => exact p.elim
  | _ => exact p.elim
theorem ix_tab {es : Array DictEntry} {n : Nat} (D : KDict X.K X.w d es n) : IxR X (fun x y H Q => ∃ (z : Str) (u0 : Value) (v0 : V), x = .ref d ∧ y = .str z ∧ PySem.W.nsIn X.K d z = some (some u0) ∧ RelV v0 u0 ∧ Q v0 H) := fun value slice pins s σ H x y v u Q I rx ry h hs => by
  obtain ⟨z, u0, v0, rfl, rfl, e⟩ := id h
  obtain rfl : v = Value.ref d := rx
  exact tail_any (kd_type D I) PySem.F.slot_dict_getitem.lookup (op_item_kd D pins s σ H (V.ref d) (V.str z) (Value.ref d) u Q I rfl ry ⟨z, u0, v0, rfl, rfl, e⟩) hs
theorem me_ixTab (T : TabOk X G x d kvs) (ha : ME X G W a ma) (hb : ME X G W b mb) (hs : PlainIx b) : ME X G W (.Subscript a b pos) (m2 (ixTabM x kvs) ma mb) := by
  obtain ⟨es, n, D⟩ := T.dict
  exact pe_imp (pe_ix (ix_tab D) ha hb hs) fun _ _ _ q => t2 (o_ixTab T) q
theorem me_notTab (T : TabOk X G x d kvs) (ha : ME X G W a ma) (hb : ME X G W b mb) (hm : behindInMarks .NotIn b = false) : ME X G W (.Compare a [.NotIn] [b] pos) (m2 (notTabM x kvs) ma mb) := by
  obtain ⟨es, n, D⟩ := T.dict
  exact me_cmp (op_notIn_kd D) (o_notTab T) ha hb hm
/-! ### a local name that holds a def -/
abbrev Fns := List (String × (List AV → M AV) × Nat)
def fnAt (fs : Fns) (x : String) : Option ((List AV → M AV) × Nat) := (fs.find? fun q => decide (q.1 = x)).map (·.2)
def mCallG (i : Nat) (fs : Fns) (ma : Fr → M (List AV)) : Fr → M AV := fun fr st => match fr[i]? with
  | some (some (.glo x)) => (match fnAt fs x with
    | some q => mCallF q.2 q.1 [] ma fr st
    | none => .stuck)
  | _ => .stuck
structure FnsOk (X : Cx) (G : String → Option Addr) (k : Nat) (fs : Fns) : Prop where
  ex : ∀ q ∈ fs, ∃ f fd ps, G q.1 = some f ∧ FnOk X.prog X.w X.K X.mg X.base CX0 k f fd ps (spM (cx X G) q.2.2 q.2.1) ∧ PySem.W.keepIn X.K (.ref f) = true ∧ Binds X.K fd ps []
theorem me_callG {k i : Nat} {y : Str} {fs : Fns} {mes : Fr → M (List AV)} (A : FnsOk X G k fs) (hr : Room k X.A) (hN : X.N[i]? = some y) (hv : Vis X.env.scope y) (ha : MA X G W (e :: es) mes)
    (hdb : (y == ("__debug__" : Str)) = false := by decide) (hcd : (y == ("__classdict__" : Str)) = false := by decide)
    (he : starEach (e :: es) X.env = (false, eval e X.env) :: starEach es X.env := by rfl) (hpl : (backTo pos (starEach es X.env)).any (·.1) = false := by rfl) : ME X G W (.Call (.Name y p) (e :: es) [] pos) (mCallG i fs mes) := by
  refine ⟨fun pins s σ H Q I q => ?_⟩
  obtain ⟨ρ, fr, st, avs, r, _, p⟩ := q
  have p : Pst (cx X G) W ρ fr σ H (PV (cx X G) Q) (mCallG i fs mes fr st) := p
  unfold mCallG at p
  split at p
  · rename_i z hz
    cases ef : fnAt fs z with
    | none => rw [ef] at p; exact p.elim
    | some q =>
      rw [ef] at p
      obtain ⟨⟨z', q'⟩, h1, h2⟩ := Option.map_eq_some_iff.mp ef
      have h2 : q' = q := h2
      subst h2
      have h3 := List.find?_some h1
      simp only [decide_eq_true_eq] at h3
      subst h3
      obtain ⟨f, fd, ps, g, F, hk, hb⟩ := A.ex _ (List.mem_of_find?_eq_some h1)
      obtain ⟨v, e1, e2⟩ := r.fr i _ hz
      cases e2 with
      | glo hg =>
        have e3 : some f = some _ := g.symm.trans hg
        cases e3
        refine (pe_callL (i := i) (dvs := []) (E := WE W σ) F hr hN hv hk hb .nil (fun _ _ _ _ _ _ _ z => z.elim) ha hdb hcd he hpl).run pins s σ H Q I ⟨e1, ?_⟩
        exact tCallM (das := []) (fun _ _ => .nil) ⟨ρ, fr, st, [], r, .nil, p⟩
  · exact p.elim
end
end MM
set_option Elab.async false
set_option linter.all false
set_option maxRecDepth 100000
set_option maxHeartbeats 4000000
/-! The mirror's a, b = x, y; a sum of lists that is to be changed. -/
namespace MM
open PySem PySem.Spec PyProof.Rows L2
def sPar (i j : Nat) (m : Fr → M (List AV)) : Fr → Sto → RS := fun fr st => RS.of fr (m fr st) fun vs st1 => match vs with
  | [v, w] => .ok .next ((fr.set i (some v)).set j (some w)) st1
  | _ => .stuck
section
variable {X : Cx} {G : String → Option Addr} {W : WX} {a b : Expr} {x y : Str} {i j : Nat} {px py pt pos : Pos} {ma : Fr → M (List AV)} {mb mc : Fr → M AV}
theorem ms_par {kt : Nat} {k2 : Nat} {pt2 : Pos} (hc : X.calm = true) (hN : X.N.Nodup) (hi : X.N[i]? = some x) (hj : X.N[j]? = some y) (hij : i ≠ j)
    (hx : X.env.scope.names.lookup x = some .local) (hy : X.env.scope.names.lookup y = some .local) (ha : MA X G W [a, b] ma)
    (hw : swappedStores [.Tuple [.Name x px, .Name y py] kt pt] (.Tuple [a, b] k2 pt2) X.env = pure (some [x, y]))
    (hs : swapsWithSole [.Tuple [.Name x px, .Name y py] kt pt] (.Tuple [a, b] k2 pt2) pos.line X.env = pure false := by rfl) :
    MS X G W (.Assign [.Tuple [.Name x px, .Name y py] kt pt] (.Tuple [a, b] k2 pt2) pos) (sPar i j ma) := ps_imp (ps_par hc hN hi hj hij hx hy ha hw hs) fun D σ H q =>
  liftS (X := Unit) (k := fun fr vs st1 => match vs with
    | [v, w] => .ok .next ((fr.set i (some v)).set j (some w)) st1
    | _ => .stuck) q fun vs ρ H1 fr st r p xs hxs => by
    split at p
    · cases hxs with
      | cons h1 t =>
        cases t with
        | cons h2 t =>
          cases t
          exact ⟨_, _, rfl, PstS.here ((r.slot h1).slot h2) p⟩
    · exact p.elim
/-- xs + ys, to be changed -/
def catN : AV → AV → M AV := fun v w st => match deL st v, deL st w with
  | some xs, some ys => if xs.length + ys.length ≤ 16000000 then .ok (.ptr st.length) (st ++ [.lst (xs ++ ys)]) else .stuck
  | _, _ => .stuck
theorem me_catN (hb : ME X G W a mb) (hc : ME X G W b mc) : ME X G W (.BinOp a .Add b pos) (m2 catN mb mc) := me_op op_catR (fun x y σ H Q q => by
  obtain ⟨ρ, fr, st, v, w, r, hv, hw, p⟩ := q.un2
  unfold catN at p
  split at p
  · rename_i xs ys h1 h2
    obtain ⟨a, vs, rfl, hs, hr⟩ := deL_ok r hv h1
    obtain ⟨b, ws, rfl, hs', hr'⟩ := deL_ok r hw h2
    have l1 := hr.len
    have l2 := hr'.len
    by_cases hl : xs.length + ys.length ≤ 16000000
    case neg => rw [if_neg hl] at p; exact p.elim
    rw [if_pos hl] at p
    exact ⟨a, b, vs, ws, rfl, rfl, hs, hs', by have : sizeLine = 16777216 := sizeLine_eq; omega, fun p' hp => newPtr r hp (.lst (hr.app hr')) p⟩
  · exact p.elim) hb hc
theorem rngA_map : ∀ (n : Nat) (lo : Int), rngA lo n = (List.range n).map fun (k : Nat) => AV.int (lo + (k : Int))
  | 0, _ => rfl
  | n + 1, lo => by
    rw [List.range_succ_eq_map, List.map_cons, List.map_map]
    show AV.int lo :: rngA (lo + 1) n = _
    rw [rngA_map n (lo + 1)]
    congr 1
    · congr 1
      omega
    · apply List.map_congr_left
      intro k _
      show AV.int (lo + 1 + (k : Int)) = AV.int (lo + ((k + 1 : Nat) : Int))
      congr 1
      omega
theorem rng_vrs {c : MC} {ρ : Rho} {H : Hp} (lo : Int) (n : Nat) : VRs c ρ H (rngA lo n) ((List.range n).map fun (k : Nat) => V.int (lo + (k : Int))) := by
  rw [rngA_map]
  exact VRs.map _ fun k _ => .int _
/-- tuple(range(i, j)) -/
def tupRgM : AV → AV → M AV := fun v w st => match v, w with
  | .int i, .int j => if 0 ≤ i ∧ i ≤ 1000000 ∧ 0 ≤ j ∧ j ≤ 1000000 then .ok (.tup (rngA i (j - i).toNat)) st else .stuck
  | _, _ => .stuck
theorem me_tupRg {p2 p3 pos2 : Pos} (hc : X.calm = true) (ht : X.mg "tuple" = none) (hm : X.mg "range" = none) (ha : ME X G W a mb) (hb : ME X G W b mc) (hg : Gl X "tuple" := by rfl) (hg2 : Gl X "range" := by rfl) (na : starEach [a, b] X.env = (false, eval a X.env) :: starEach [b] X.env := by rfl)
    (nb : starEach [b] X.env = (false, eval b X.env) :: starEach [] X.env := by rfl) (hp : (backTo pos2 (starEach [b] X.env)).any (·.1) = false := by rfl) (nr : starEach [.Call (.Name "range" p3) [a, b] [] pos2] X.env = (false, eval (.Call (.Name "range" p3) [a, b] [] pos2) X.env) :: starEach [] X.env := by rfl) :
    ME X G W (.Call (.Name "tuple" p2) [.Call (.Name "range" p3) [a, b] [] pos2] [] pos) (m2 tupRgM mb mc) := pe_imp (pe_tupRg hc hg ht (prg_2 hg2 hm ha hb na nb hp) nr) fun σ H Q q => by
  have q1 : tOp (fun x y H Q => ∃ i j, x = .int i ∧ y = .int j ∧ RgOk i j ∧ ∀ p, H p = none → Q (.ref p) (upd H p (.tup (rgV i j)))) (tM (cx X G) W mb) (tM (cx X G) W mc) σ H Q := t2 (fun x y σ H Q q => by
    obtain ⟨ρ, fr, st, v, w, r, hv, hw, p⟩ := q.un2
    unfold tupRgM at p
    split at p
    · rename_i i j
      split at p
      · rename_i hk
        cases hv
        cases hw
        exact ⟨i, j, rfl, rfl, RgOk.of_le (by omega) (by omega) (by omega) (by omega), fun p' hp => newTup r (rng_vrs i _) hp p⟩
      · exact p.elim
    · exact p.elim) q
  exact q1
/-- name = [.. for ..] on one row -/
theorem ms_setLc {i : Nat} {elt tg iter : Expr} {ifs : List Expr} {scope : Scope} {own : List (Str × Nat)} {spos : Pos} {t : Tgt} {mi : Fr → M Its} {mt : Fr → M Bool} {me : Fr → M AV} (hc : X.calm = true) (hN : X.N.Nodup) (hy : X.N[i]? = some y) (hyl : X.env.scope.names.lookup y = some .local)
    (hi : MI X G W tg iter mi) (ok : BlkOk X.N X.env.scope scope own) (hm : ∀ i ∈ t.ix, i ∈ own.map (·.2)) (hg : BlkG X scope tg t) (ht : BlkT X G scope ifs mt) (he : BlkE X G scope elt me)
    (hsw : swapsWith (.ListComp elt [⟨tg, iter, ifs, 0⟩] scope pos) (some (.Name y py)) spos.line X.env = pure true) (hs : ∀ x, foldedSetIterable iter X.env x = pure x := by intro _; rfl) :
    MS X G W (.Assign [.Name y py] (.ListComp elt [⟨tg, iter, ifs, 0⟩] scope pos) spos) (sAsg (.nm i) (mComp (own.map (·.2)) t mi mt me)) := ps_imp (ps_setLc hc hN hy hyl hsw hi ok hg ht he hs) fun D σ H q =>
  lcRead hm (tG.imp (liftV q) fun v ρ H1 z x hx => by
    obtain ⟨ρ, fr, st, v, r, hx, p⟩ := z x hx
    exact p ρ _ H1 (Stp.refl _ _) (r.slot hx))
theorem mt_notTab {x : String} {d : Addr} {kvs : List (Str × AV)} (T : TabOk X G x d kvs) (ha : ME X G W a mb) (hb : ME X G W b mc) (hm : behindInMarks .NotIn b = false) : MT X G W (.Compare a [.NotIn] [b] pos) (mB (m2 (notTabM x kvs) mb mc)) := by
  obtain ⟨es, n, D⟩ := T.dict
  exact mt_cmp (op_notIn_kd D) (o_notTab T) ha hb hm
end
end MM
set_option Elab.async false
set_option linter.all false
set_option maxRecDepth 100000
set_option maxHeartbeats 4000000
/-! The mirror's call without arguments. -/
namespace MM
open PySem PySem.Spec PyProof.Rows L2
section
variable {X : Cx} {G : String → Option Addr} {W : WX} {CX : CXT} {k n : Nat} {f : Addr} {fd : FuncData} {ps : List Str} {pf : List AV → M AV} {das : List AV} {dvs : List V} {ds : List Value} {x : Str} {p pos : Pos}
theorem pe_callSD0 {sp : Sp} {E : L2.St → XK} (F : FnOk X.prog X.w X.K X.mg X.base CX k f fd ps sp) (hr : Room k X.A) (hg : Gl X x) (hm : X.mg x = some (.ref f)) (hk : PySem.W.keepIn X.K (.ref f) = true) (hb : Binds X.K fd ps ds) (hd : Vals dvs ds) (hx : ∀ σ, PassesAt CX X σ (E σ))
    (hdb : (x == ("__debug__" : Str)) = false := by decide) : PE X (.Call (.Name x p) [] [] pos) (fun σ H Q => sp dvs H Q (E σ)) := by
  refine ⟨fun pins s σ H Q I h => ?_⟩
  refine wpAny_Call_Name_kw (ld_glob I hg hm ?_ hdb)
  exact PySem.W.callWith_K0 I.kIn hk (run_fnSD (us := []) (vs := []) F hr hb hd (hx σ) I .nil h)
theorem me_call0 (F : FnOk X.prog X.w X.K X.mg X.base CX k f fd ps (spM (cx X G) n pf)) (hr : Room k X.A) (hg : Gl X x) (hm : X.mg x = some (.ref f)) (hk : PySem.W.keepIn X.K (.ref f) = true) (hb : Binds X.K fd ps ds) (hd : Vals dvs ds) (hda : ∀ ρ H, VRs (cx X G) ρ H das dvs) (hx : ∀ σ, PassesAt CX X σ (WE W σ))
    (hdb : (x == ("__debug__" : Str)) = false := by decide) : ME X G W (.Call (.Name x p) [] [] pos) (mCallF n pf das mNil) := pe_imp (pe_callSD0 (E := fun σ => WE W σ) F hr hg hm hk hb hd hx hdb) fun σ H Q q => by
  obtain ⟨ρ, fr, st, avs, r, q2, p⟩ := tCallM (ma := mNil) hda q
  cases q2
  exact p ρ H (Stp.refl _ _) r [] .nil
end
/-! ### ==, != of texts without a look at their signs -/
def eq2M : AV → AV → M AV := fun v w st => match v, w with
  | .str x, .str y => .ok (.bl (decide (x = y))) st
  | v, w => eqM v w st
def ne2M : AV → AV → M AV := fun v w st => match v, w with
  | .str x, .str y => .ok (.bl (!decide (x = y))) st
  | v, w => neM v w st
section
variable {X : Cx} {G : String → Option Addr} {W : WX}
theorem op_eq2 (hu : X.A.units + 64 < cLine) : OpR X (compareOp .Eq) (fun x y H Q => rEq x y H Q ∨ rEqD X.K x y H Q) := OpR.or op_eq (op_eqD hu)
theorem op_ne2 (hu : X.A.units + 64 < cLine) : OpR X (compareOp .NotEq) (fun x y H Q => rNe x y H Q ∨ rNeD X.K x y H Q) := OpR.or op_ne (op_neD hu)
theorem dec_str {x y : Str} : decide (V.str x = V.str y) = decide (x = y) := decide_eq_decide.mpr ⟨fun h => by cases h; rfl, fun h => by rw [h]⟩
theorem o_eq2 : Op2 X G W (fun x y H Q => rEq x y H Q ∨ rEqD X.K x y H Q) eq2M := fun x y σ H Q q => by
  have q0 := q
  obtain ⟨ρ, fr, st, v, w, r, hv, hw, p⟩ := q.un2
  unfold eq2M at p
  split at p
  · cases hv; cases hw
    refine .inl ⟨rfl, ?_⟩
    rw [dec_str]
    exact p ρ H (Stp.refl _ _) r _ (.bl _)
  · exact .inr (o_eq x y σ H Q ⟨ρ, fr, st, [v, w], r, .cons hv (.cons hw .nil), p⟩)
theorem o_ne2 : Op2 X G W (fun x y H Q => rNe x y H Q ∨ rNeD X.K x y H Q) ne2M := fun x y σ H Q q => by
  obtain ⟨ρ, fr, st, v, w, r, hv, hw, p⟩ := q.un2
  unfold ne2M at p
  split at p
  · cases hv; cases hw
    refine .inl ⟨rfl, ?_⟩
    rw [dec_str]
    exact p ρ H (Stp.refl _ _) r _ (.bl _)
  · exact .inr (o_ne x y σ H Q ⟨ρ, fr, st, [v, w], r, .cons hv (.cons hw .nil), p⟩)
end
end MM
set_option Elab.async false
set_option linter.all false
set_option maxRecDepth 100000
set_option maxHeartbeats 4000000
/-! The mirror's targets: attributes, tuples of any targets, several targets at once. -/
namespace MM
open PySem PySem.Spec PyProof.Rows L2
/-- a place o.f -/
def gFldT (K : PySem.W.Frag) (ta : TE) (f : Str) : TG := fun y σ H Q => ta σ H fun x H1 => ∃ a C dx fs, x = .ref a ∧ H1 a = some (.ins C dx fs) ∧ Cls K C ∧ NoAttr K C f ∧ fs.length < 1000 ∧ Q σ (upd H1 a (.ins C dx (putF f y fs)))
section
variable {X : Cx} {o e : Expr} {f : Str} {ta te : TE} {pos : Pos}
theorem pg_fld (ha : PE X o ta) : PG X (.Attribute o f pos) (gFldT X.K ta f) := ⟨fun pins s σ H y u Q I ry q => by
  show wpAny _ _ (do
    let ov ← holding [u] (eval o X.env)
    standAt pos.atName
    holding [u, ov] (setAttr ov f u)
    release [u, ov] []) _ _ _
  refine wpAny_bind (wpAny_holding (thn (ha.run pins s σ H _ I q) fun ov s2 ⟨x, H2, I2, rx, a, C, dx, fs, ex, ea, c, n, l, q2⟩ => ?_))
  subst ex
  obtain rfl : ov = Value.ref a := rx
  refine wpAny_bind (wpAny_standAt (wpAny_bind (wpAny_holding (setattr_ok I2 ea c n l ry fun s3 I3 => ?_))))
  exact wpAny_release ⟨σ, _, I3, q2⟩⟩
/-- t1 = t2 = t3 = t4 = e -/
def tAsg4 (te : TE) (g1 g2 g3 g4 : TG) : TS := fun D σ H => te σ H fun x H1 => g1 x σ H1 fun σ1 H2 => g2 x σ1 H2 fun σ2 H3 => g3 x σ2 H3 fun σ3 H4 => g4 x σ3 H4 D.nx
theorem ps_asg4 {t1 t2 t3 t4 : Expr} {g1 g2 g3 g4 : TG} (he : PE X e te) (h1 : PG X t1 g1) (h2 : PG X t2 g2) (h3 : PG X t3 g3) (h4 : PG X t4 g4)
    (ha : (assignEach [t1, t2, t3, t4] X.env).map (·.2) = [assign t1 X.env, assign t2 X.env, assign t3 X.env, assign t4 X.env] := by rfl) (hw : swappedStores [t1, t2, t3, t4] e X.env = pure none := by rfl) : PS X (.Assign [t1, t2, t3, t4] e pos) (tAsg4 te g1 g2 g3 g4) := ⟨fun pins s σ H D I h => by
  refine wpAny_Assign_stores (thn (he.run pins s σ H _ I h) fun v s1 ⟨x, H1, I1, r1, q1⟩ => ?_) rfl hw
  rw [ha]
  refine wpAny_bind (wpAny_holding (thn (h1.run pins s1 σ H1 x v _ I1 r1 q1) fun _ s2 ⟨σ2, H2, I2, q2⟩ => ?_))
  refine wpAny_bind (wpAny_holding (thn (h2.run pins s2 σ2 H2 x v _ I2 r1 q2) fun _ s3 ⟨σ3, H3, I3, q3⟩ => ?_))
  refine wpAny_bind (wpAny_holding (thn (h3.run pins s3 σ3 H3 x v _ I3 r1 q3) fun _ s4 ⟨σ4, H4, I4, q4⟩ => ?_))
  exact thn (h4.run pins s4 σ4 H4 x v _ I4 r1 q4) fun _ s5 q => q⟩
end
/-! ### mirrors -/
def gFldM (C F : String) (mo : Fr → M AV) : TgM := fun v fr st => match mo fr st with
  | .ok (.ptr n) st1 => (match st1[n]? with
    | some (.ins C' fs) => if C' = C ∧ fs.length < 1000 then some (fr, st1.set n (.ins C (putA F v fs))) else none
    | _ => none)
  | _ => none
def seqT : List TgM → List AV → TgM
  | [], [], _, fr, st => some (fr, st)
  | m :: ms, x :: xs, v, fr, st => match m x fr st with
    | some (fr1, st1) => seqT ms xs v fr1 st1
    | none => none
  | _, _, _, _, _ => none
def gTupM (ms : List TgM) : TgM := fun v fr st => match deT v with
  | some xs => seqT ms xs v fr st
  | none => none
def tMgs (c : MC) (ms : List TgM) : TGs := fun xs σ H Q => ∃ ρ fr st avs fr1 st1, Rep c ρ fr st σ H ∧ VRs c ρ H avs xs ∧ seqT ms avs .non fr st = some (fr1, st1) ∧ ∀ ρ' σ' H', Stp ρ H ρ' H' → Rep c ρ' fr1 st1 σ' H' → Q σ' H'
theorem seqT_v : ∀ (ms : List TgM) (xs : List AV) (v w : AV) (fr : Fr) (st : Sto), seqT ms xs v fr st = seqT ms xs w fr st
  | [], [], _, _, _, _ => rfl
  | [], _ :: _, _, _, _, _ => rfl
  | _ :: _, [], _, _, _, _ => rfl
  | m :: ms, x :: xs, v, w, fr, st => by
    simp only [seqT]
    split
    · exact seqT_v ms xs v w _ _
    · rfl
theorem seqT_len : ∀ {ms : List TgM} {xs : List AV} {v : AV} {fr : Fr} {st : Sto} {r : Fr × Sto}, seqT ms xs v fr st = some r → xs.length = ms.length
  | [], [], _, _, _, _, _ => rfl
  | [], _ :: _, _, _, _, _, h => by simp [seqT] at h
  | _ :: _, [], _, _, _, _, h => by simp [seqT] at h
  | m :: ms, x :: xs, v, fr, st, r, h => by
    simp only [seqT] at h
    split at h
    · rw [List.length_cons, List.length_cons, seqT_len h]
    · cases h
section
variable {X : Cx} {G : String → Option Addr} {W : WX} {tg o e : Expr} {es : List Expr} {pos : Pos} {mo ma : Fr → M AV} {m m1' m2' m3' m4' : TgM} {ms : List TgM} {C : String} {A : Addr}
theorem mg_fld {F : String} {fn : Str} (ho : ME X G W0 o mo) (hC : G C = some A) (hc : Cls X.K A) (hn : NoAttr X.K A fn) (hfn : fn = Str.ofString F) : MG X G (.Attribute o fn pos) (gFldM C F mo) := by
  subst hfn
  refine pg_imp (pg_fld ho) fun x σ H Q q => ?_
  obtain ⟨ρ, fr, st, v, fr1, st1, r, hv, e, q⟩ := q
  have key : tM (cx X G) W0 mo σ H fun y H1 => ∃ ρ1 fr2 st2 o1, Rep (cx X G) ρ1 fr2 st2 σ H1 ∧ VR (cx X G) ρ1 H1 o1 y ∧ VR (cx X G) ρ1 H1 v x ∧ mo fr st = .ok o1 st2 ∧ fr2 = fr ∧ Stp ρ H ρ1 H1 := by
    refine ⟨ρ, fr, st, [], r, .nil, ?_⟩
    show Pst (cx X G) W0 ρ fr σ H _ (mo fr st)
    unfold gFldM at e
    cases eo : mo fr st with
    | ok o1 st2 => exact fun ρ' H' s r' y hy => ⟨ρ', fr, st2, o1, r', hy, hv.mono s, rfl, rfl, s⟩
    | exc x1 st2 => rw [eo] at e; cases e
    | stuck => rw [eo] at e; cases e
  refine tG.imp key fun o1 ρ1 H1 z y hy => ?_
  obtain ⟨ρ2, fr2, st2, o2, r2, hy2, hv2, eo, rfl, s2⟩ := z y hy
  unfold gFldM at e
  rw [eo] at e
  cases hy2 with
  | @ptr n a hp =>
    simp only at e
    cases eg : st2[n]? with
    | none => rw [eg] at e; cases e
    | some ob =>
      rw [eg] at e
      cases ob with
      | ins C' fs =>
        simp only at e
        by_cases hcnd : C' = C ∧ fs.length < 1000
        case neg => rw [if_neg hcnd] at e; cases e
        rw [if_pos hcnd] at e
        cases e
        obtain ⟨rfl, hl⟩ := hcnd
        obtain ⟨b, u, e1, e2, e3⟩ := r2.ob n _ eg
        rw [hp] at e1
        cases e1
        cases e3 with
        | ins g qf =>
          rename_i Ca dx vs
          have eA : Ca = A := Option.some.inj (g.symm.trans hC)
          subst eA
          have s4 := r2.stpPut (u := .ins Ca dx (putF (Str.ofString F) x vs)) hp
          exact ⟨a, Ca, dx, vs, rfl, e2, hc, hn, by rw [← qf.len]; exact hl, q ρ2 σ _ (s2.trans s4) (r2.put hp (.ins g (putA_ok hv2 qf)))⟩
      | _ => cases e
  | _ => cases e
theorem mgs_nil : PGs X [] (tMgs (cx X G) []) := ⟨fun pins s σ H v u Q I r q => pgs_nil.run pins s σ H v u Q I r (by
  obtain ⟨ρ, fr, st, avs, fr1, st1, rp, hv, e, q⟩ := q
  cases hv with
  | nil => cases e; exact ⟨rfl, q ρ σ H (Stp.refl _ _) rp⟩
  | cons a b => simp [seqT] at e)⟩
theorem mgs_cons (h : MG X G e m) (hr : PGs X es (tMgs (cx X G) ms)) (hs : (assignEach (e :: es) X.env).map (·.2) = assign e X.env :: (assignEach es X.env).map (·.2) := by rfl) : PGs X (e :: es) (tMgs (cx X G) (m :: ms)) := ⟨fun pins s σ H v u Q I r q => (pgs_cons h hr hs).run pins s σ H v u Q I r (by
  obtain ⟨ρ, fr, st, avs, fr1, st1, rp, hv, e, q⟩ := q
  cases hv with
  | nil => simp [seqT] at e
  | cons h1 hv =>
    simp only [seqT] at e
    split at e
    · rename_i fr2 st2 em
      refine ⟨_, _, rfl, ρ, fr, st, _, fr2, st2, rp, h1, em, fun ρ' σ' H' s' r' => ?_⟩
      exact ⟨ρ', fr2, st2, _, fr1, st1, r', hv.mono s', e, fun ρ2 σ2 H2 s2 r2 => q ρ2 σ2 H2 (s'.trans s2) r2⟩
    · cases e)⟩
theorem mg_tup {k : Nat} (hc : X.calm = true) (h : PGs X es (tMgs (cx X G) ms)) (hn : (assignEach es X.env).length = ms.length := by rfl) (hst : (assignEach es X.env).findIdx? (·.1) = none := by rfl) : MG X G (.Tuple es k pos) (gTupM ms) := pg_imp (pg_tup hc h hn hst) fun x σ H Q q => by
  obtain ⟨ρ, fr, st, v, fr1, st1, r, hv, e, q⟩ := q
  unfold gTupM at e
  split at e
  · rename_i xs hx
    obtain ⟨a, vs, rfl, hs, hr⟩ := deT_ok hv hx
    exact ⟨a, vs, rfl, hs, by rw [← hr.len]; exact seqT_len e, ρ, fr, st, xs, fr1, st1, r, hr, by rw [seqT_v ms xs .non v]; exact e, q⟩
  · cases e
/-- t1 = t2 = t3 = t4 = e -/
def sAsg4 (g1 g2 g3 g4 : TgM) (m : Fr → M AV) : Fr → Sto → RS := fun fr st => RS.of fr (m fr st) fun v st1 => match g1 v fr st1 with
  | some (fr1, st2) => (match g2 v fr1 st2 with
    | some (fr2, st3) => (match g3 v fr2 st3 with
      | some (fr3, st4) => (match g4 v fr3 st4 with
        | some (fr4, st5) => .ok .next fr4 st5
        | none => .stuck)
      | none => .stuck)
    | none => .stuck)
  | none => .stuck
theorem ms_asg4 {t1 t2 t3 t4 : Expr} {g1 g2 g3 g4 : TgM} (he : ME X G W e ma) (h1 : MG X G t1 g1) (h2 : MG X G t2 g2) (h3 : MG X G t3 g3) (h4 : MG X G t4 g4)
    (ha : (assignEach [t1, t2, t3, t4] X.env).map (·.2) = [assign t1 X.env, assign t2 X.env, assign t3 X.env, assign t4 X.env] := by rfl) (hw : swappedStores [t1, t2, t3, t4] e X.env = pure none := by rfl) : MS X G W (.Assign [t1, t2, t3, t4] e pos) (sAsg4 g1 g2 g3 g4 ma) := ps_imp (ps_asg4 he h1 h2 h3 h4 ha hw) fun D σ H q =>
  tG.imp (liftV q) fun v ρ H1 z x hx => by
    obtain ⟨ρ, fr, st, v, r, hx, p⟩ := z x hx
    cases e1 : g1 v fr st with
    | none => simp only [e1] at p; exact p.elim
    | some q1 =>
      obtain ⟨fr1, st1⟩ := q1
      simp only [e1] at p
      refine ⟨ρ, fr, st, v, fr1, st1, r, hx, e1, fun ρ1 σ1 H2 s1 r1 => ?_⟩
      cases e2 : g2 v fr1 st1 with
      | none => simp only [e2] at p; exact p.elim
      | some q2 =>
        obtain ⟨fr2, st2⟩ := q2
        simp only [e2] at p
        refine ⟨ρ1, fr1, st1, v, fr2, st2, r1, hx.mono s1, e2, fun ρ2 σ2 H3 s2 r2 => ?_⟩
        cases e3 : g3 v fr2 st2 with
        | none => simp only [e3] at p; exact p.elim
        | some q3 =>
          obtain ⟨fr3, st3⟩ := q3
          simp only [e3] at p
          refine ⟨ρ2, fr2, st2, v, fr3, st3, r2, (hx.mono s1).mono s2, e3, fun ρ3 σ3 H4 s3 r3 => ?_⟩
          cases e4 : g4 v fr3 st3 with
          | none => simp only [e4] at p; exact p.elim
          | some q4 =>
            obtain ⟨fr4, st4⟩ := q4
            simp only [e4] at p
            exact ⟨ρ3, fr3, st3, v, fr4, st4, r3, ((hx.mono s1).mono s2).mono s3, e4, fun ρ4 σ4 H5 s4 r4 => p ρ4 σ4 H5 (((s1.trans s2).trans s3).trans s4) r4⟩
end
end MM
set_option Elab.async false
set_option linter.all false
set_option maxRecDepth 100000
set_option maxHeartbeats 4000000
/-! The mirror's comparisons of unlike things: a container, a dict, an own object beside a text; a tuple beside (). -/
namespace MM
open PySem PySem.Spec PyProof.Rows L2
section
open PySem.SeqAt PySem.AutoSeq1 PySem.MeetsSeq PySem.MeetsSeq2 PySem.MeetsSeq3
theorem dict_declines_text (l : Addr) (es : Array DictEntry) (ep : Nat) (dd : Option Addr) (sl : Array (Option Value)) (b : Str) (u : Tok) :
    Meets (Builtin.«dict.__ne__» ⟨[.ref l, .str b u], []⟩) (fun _ R s => s.heap.get? l = some ⟨.type "dict", dd, .dict es ep, sl⟩ ∧ R (.ok (.ret .notImplemented)) s) :=
  .of_wp fun prog w A R s h => by
    obtain ⟨hp, g, d, tk, os⟩ := s
    obtain ⟨hl, h⟩ := h
    have f1 := F.sub_str_dict
    wp_walk using wpAny_loadPart' hl
    exact ⟨_, rfl, h⟩
theorem text_declines_dict (b : Str) (u : Tok) (l : Addr) (es : Array DictEntry) (ep : Nat) (dd : Option Addr) (sl : Array (Option Value)) :
    Meets (Builtin.«str.__ne__» ⟨[.str b u, .ref l], []⟩) (fun _ R s => s.heap.get? l = some ⟨.type "dict", dd, .dict es ep, sl⟩ ∧ R (.ok (.ret .notImplemented)) s) :=
  .of_wp fun prog w A R s h => by
    obtain ⟨hp, g, d, tk, os⟩ := s
    obtain ⟨hl, h⟩ := h
    wp_walk using wpAny_loadPart' hl, wpAny_load hl
    exact ⟨_, rfl, h⟩
theorem ne_dict_text {A : Around} {s : Shared} {l : Addr} {o : Obj} {es : Array DictEntry} {ep : Nat} (b : Str) (u : Tok) (ho : s.heap.get? l = some o) (hc : o.cls = .type "dict") (hd : o.data = .dict es ep) (hu : A.units < cLine) : RcNeAt A s (.ref l) (.str b u) true := fun prog w E Q h => by
  obtain ⟨c, dd, data, sl⟩ := o
  cases hc
  cases hd
  refine rc_ne_decline_or (k := false) ⟨_, ho, rfl⟩ (typeIs_str s b u) (by decide) F.sub_str_dict F.slot_dict_ne F.slot_str_ne_refl (fun _ hq => ?_) (fun _ hq => ?_) (fun _ hq => wpAny_of_eq (rfl : isSame (.ref l) (.str b u) = pure false) hq) (.inr hu) h
  · exact call_meets F.slot_dict_ne ⟨_, ho, rfl⟩ F.entry_dict_ne (F.args_dict_ne_2 _ _) (dict_declines_text l es ep dd sl b u) ⟨ho, hq⟩
  · exact call_meets F.slot_str_ne_refl (typeIs_str s b u) F.entry_str_ne (F.args_str_ne_2 _ _) (text_declines_dict b u l es ep dd sl) ⟨ho, hq⟩
end
/-! ### own objects -/
section
variable {prog : Program} {w : World} {A : Around} {E : Value → Shared → Prop} {s : Shared} {K : PySem.W.Frag} {x C f : Addr} {ox : Obj} {od : Option Obj}
open PySem.W
/-- object's own !=, found in the class, called -/
theorem special_ne {args : List Value} {Q : Option Value → Shared → Prop} (X : K.In s.heap) (I : InstAt s.heap x ox C od) (hs : findIn K (.ref C) "__ne__" = some (some (.builtin "object.__ne__")))
    (h : wpAny (model prog w) A (call (.builtin "object.__ne__") (.ref x :: args)) (fun v => Q (some v)) E s) : wpAny (model prog w) A (callSpecialIfBound? (.ref x) "__ne__" args) Q E s := by
  have S := F.cmp_object.ne
  simp only [callSpecialIfBound?, bindSpecialIfBound?]
  refine wpAny_holding (wpAny_bind (wpAny_bind (wpAny_bind (I.type.here ((looks_findIn X hs).here ?_)))))
  simp only [S.bind]
  have fin : wpAny (model prog w) A (call (.builtin "object.__ne__") ([.ref x] ++ args) >>= fun v => pure (some v)) Q E s := wpAny_bind (wpAny_mono h (fun v s' z => wpAny_pure z) fun _ _ z => z)
  refine wpAny_bind (wpAny_askSetting (wpAny_ite ?_))
  split
  · exact wpAny_bind (wpAny_pure (wpAny_pure fin))
  · exact wpAny_tryCatch (wpAny_bind (wpAny_pure (wpAny_pure fin)))
theorem ne_own {b tb : Value} {Q : Value → Shared → Prop} (hu : A.units + 1 < cLine) (X : K.In s.heap) (I : InstAt s.heap x ox C od) (hb : Looks (model prog w) s.heap (typeOf b) tb) (hn : notFirst K C tb = true)
    (hne : findIn K (.ref C) "__ne__" = some (some (.builtin "object.__ne__"))) (heq : findIn K (.ref C) "__eq__" = some (some (.ref f))) (hf : isFn K (.ref f) = true) (hm : mroIn K C (.type "object") = some true)
    (h : wpAny (model prog w) A.in1 (call (.ref f) [.ref x, b]) (fun v s' => ∃ r, v = .bool r ∧ Q (.bool (!r)) s') E s) : wpAny (model prog w) A (richCompare .NotEq (.ref x) b) Q E s := by
  have isob : Looks (model prog w) s.heap (isInstance (.ref x) (.type "object")) true := I.type.andThen (looks_mroIn X hm)
  have body : wpAny (model prog w) A.in1 (Builtin.«object.__ne__» ⟨[.ref x, b], []⟩) (fun fin s' => ∃ r, fin = .done (.ret (.bool r)) ∧ Q (.bool r) s') E s := by
    have h1 : wpAny (model prog w) A.in1 (callSpecialIfBound? (.ref x) "__eq__" [b]) (fun o s' => ∃ r, o = some (.bool r) ∧ Q (.bool (!r)) s') E s :=
      ifBound_K X I heq hf (wpAny_mono h (fun v s' z => let ⟨r, e, q⟩ := z; ⟨r, by rw [e], q⟩) fun _ _ z => z)
    unfold Builtin.«object.__ne__»
    have hu' : A.in1.units < cLine := hu
    iterate 5 wp_step
    refine wpAny_bind (wpAny_cRoomFor hu' (wpAny_bind (wpAny_mono h1 (fun o s' z => ?_) fun _ _ z => z)))
    obtain ⟨r, rfl, q⟩ := z
    exact wpAny_bind (wpAny_truthy_bool (wpAny_pure ⟨_, rfl, q⟩))
  have one : wpAny (model prog w) A (tryCompare (.ref x) "__ne__" b) (fun r s' => ∃ v, r = some v ∧ Q v s') E s := by
    unfold tryCompare
    refine wpAny_bind (special_ne X I hne (wpAny_call (codeAny_call_builtin F.cmp_object.ne.plain F.cmpEntry_ne (check_slot F.cmpKind_ne F.cmpSplit_ne isob (F.cmpArgs_ne _ _) ?_))))
    refine wpAny_mono body (fun fin s' z => ?_) fun _ _ z => z
    obtain ⟨r, rfl, q⟩ := z
    exact wpAny_pure ⟨_, rfl, q⟩
  unfold richCompare
  simp only [oneThing_ref]
  refine wpAny_holding (wpAny_bind (wpAny_cRoomFor (by omega) ?_))
  refine wpAny_bind (I.type.here (wpAny_bind (hb.here ?_)))
  have e : (Value.ref C != tb) = true → subIn K tb (.ref C) = some false := fun q => by
    rcases Bool.or_eq_true_iff.mp hn with e | e
    · rw [beq_iff_eq.mp e] at q; simp at q
    · exact beq_iff_eq.mp e
  split
  · rename_i q
    refine wpAny_bind ((looks_subIn X (e q)).here ?_)
    simp only [Bool.false_eq_true, if_false]
    refine wpAny_bind (wpAny_mono one (fun r s' z => ?_) fun _ _ z => z)
    obtain ⟨v, rfl, hq⟩ := z
    exact wpAny_pure hq
  · refine wpAny_bind (wpAny_pure ?_)
    simp only [Bool.false_eq_true, if_false]
    refine wpAny_bind (wpAny_mono one (fun r s' z => ?_) fun _ _ z => z)
    obtain ⟨v, rfl, hq⟩ := z
    exact wpAny_pure hq
end
section
variable {X : Cx} {CX : CXT} {k : Nat} {f : Addr} {fd : FuncData} {ps : List Str} {sp : Sp} {dvs : List V} {ds : List Value} {E : L2.St → XK}
/-- a def called from within a built-in -/
theorem run_fnA {A : Around} {pins : List (Addr × Obj)} {σ : L2.St} {H : Hp} {s : Shared} {Q : VK} {us : List Value} {vs : List V} (fr : A.frames = X.A.frames) (F : FnOk X.prog X.w X.K X.mg X.base CX k f fd ps sp) (hr : Room k A) (hb : Binds X.K fd ps ds) (hd : Vals dvs ds) (hx : PassesAt CX X σ (E σ))
    (I : Inv X pins σ H s) (r : Vals vs us) (h : sp (vs ++ dvs) H Q (E σ)) : wpAny (model X.prog X.w) A (call (.ref f) us) (EP X pins σ Q) X.xe s := by
  have r2 : Vals (vs ++ dvs) (us ++ ds) := r.append hd
  have hl : (us ++ ds).length = ps.length := by rw [← r2.length]; exact F.len _ _ _ _ h
  have e := I.env0
  have e0 : Env0 X.prog X.w X.K X.mg X.base A X.stack s H := ⟨by rw [fr]; exact e.frames, e.mod, e.bs, e.bsz, e.funs, e.frf, e.hok, e.bare⟩
  refine wpAny_call (codeAny_mono (F.run A X.stack s H ⟨us, []⟩ (us ++ ds) (vs ++ dvs) Q (E σ) hr e0 (hb s us I.kIn hl) r2 h) fun z s' hq => ?_)
  cases z with
  | error e => exact hx pins H s e s' I hq
  | ok fl =>
    cases fl with
    | ret u => exact I.after hq
    | next => exact False.elim hq
    | brk => exact False.elim hq
    | cont => exact False.elim hq
end
/-! ### != beside a text -/
/-- own classes' == -/
abbrev Eqs := List (String × (List AV → M AV))
def eqAt (fs : Eqs) (x : String) : Option (List AV → M AV) := (fs.find? fun q => decide (q.1 = x)).map (·.2)
structure EqsOk (X : Cx) (G : String → Option Addr) (k : Nat) (fs : Eqs) : Prop where
  ex : ∀ q ∈ fs, ∃ C f fd ps, G q.1 = some C ∧ FnOk X.prog X.w X.K X.mg X.base CX0 k f fd ps (spM (cx X G) 2 q.2) ∧ Binds X.K fd ps [] ∧ PySem.W.findIn X.K (.ref C) "__ne__" = some (some (.builtin "object.__ne__")) ∧
    PySem.W.findIn X.K (.ref C) "__eq__" = some (some (.ref f)) ∧ PySem.W.isFn X.K (.ref f) = true ∧ PySem.W.mroIn X.K C (.type "object") = some true ∧ PySem.W.notFirst X.K C (.type "str") = true
def neTxt (fs : Eqs) (v : AV) (y : Str) : M AV := fun st => match v with
  | .non => .ok (.bl true) st
  | .bl _ => .ok (.bl true) st
  | .int _ => .ok (.bl true) st
  | .str x => .ok (.bl (!decide (x = y))) st
  | .tup _ => .ok (.bl true) st
  | .ktup _ => .ok (.bl true) st
  | .lst _ => .ok (.bl true) st
  | .dk _ => .ok (.bl true) st
  | .dt _ => .ok (.bl true) st
  | .ins C _ => (match eqAt fs C with
    | some pf => (pf [v, .str y] st).nox.bind fun r st1 => (match r with
      | .bl b => .ok (.bl (!b)) st1
      | _ => .stuck)
    | none => .stuck)
  | _ => .stuck
def ne3M (fs : Eqs) : AV → AV → M AV := fun v w st => match w with
  | .str y => neTxt fs v y st
  | w => ne2M v w st
def rNeTxt (X : Cx) (G : String → Option Addr) (fs : Eqs) : R2 := fun x y H Q => ∃ z, y = .str z ∧ (rNe x y H Q ∨ (∃ a xs, x = .ref a ∧ (SqL X.K H a xs ∨ SqT X.K H a xs) ∧ Q (.bl true) H) ∨
  (∃ a u, x = .ref a ∧ Rd H a u ∧ IsD u ∧ Q (.bl true) H) ∨
  ∃ q ∈ fs, ∃ a C dx vs, x = .ref a ∧ G q.1 = some C ∧ H a = some (.ins C dx vs) ∧ spM (cx X G) 2 q.2 [x, y] H (fun v H' => ∃ b, v = .bl b ∧ Q (.bl (!b)) H') fun _ _ _ => False)
section
variable {X : Cx} {G : String → Option Addr} {W : WX} {k : Nat} {fs : Eqs}
theorem dict_at {P : Program} {w : World} {H : Hp} {h : Heap} (hok : HOk P w H h) {a : Addr} {u : HO} (r : Rd H a u) (d : IsD u) : ∃ (o : Obj) (es : Array DictEntry) (ep : Nat), h.get? a = some o ∧ o.cls = .type "dict" ∧ o.data = .dict es ep := by
  have q := r.ok hok
  rcases d with ⟨kvs, rfl⟩ | ⟨kvs, rfl⟩
  · obtain ⟨_, _, vs, _, o, es, ep, e, ex, dd, _⟩ := q
    exact ⟨o, es, ep, e, ex.1, dd⟩
  · obtain ⟨_, _, xs, _, o, es, ep, e, ex, dd, _⟩ := q
    exact ⟨o, es, ep, e, ex.1, dd⟩
theorem op_neTxt (hr : Room (k + 1) X.A) (F : EqsOk X G k fs) : OpR X (compareOp .NotEq) (rNeTxt X G fs) := by
  intro pins s σ H x y v u Q I rx ry h
  have hu : X.A.units + 1 < cLine := by have := hr.un; omega
  obtain ⟨z, rfl, h⟩ := h
  obtain ⟨t, rfl⟩ := (show ∃ t, u = Value.str z t from ry)
  have fin : ∀ b, Q (.bl b) H → EP X pins σ Q (.bool b) s := fun b q => ⟨.bl b, H, I, rfl, q⟩
  rcases h with h | ⟨a, xs, rfl, h, q⟩ | ⟨a, w, rfl, h, hd, q⟩ | ⟨q, hq, a, C, dx, vs, rfl, hC, ha, hs⟩
  · exact op_ne pins s σ H x (.str z) v (.str z t) Q I rx ⟨t, rfl⟩ h
  · obtain rfl : v = Value.ref a := rx
    rcases h with h | h
    · obtain ⟨its, _, p, _⟩ := I.list h
      obtain ⟨o, n, e1, e2, _, e3⟩ := p
      exact SeqAt.RcNeAt.list_str z t ⟨o, e1, e2, n, e3⟩ (by omega) X.prog X.w X.xe _ (fin true q)
    · obtain ⟨its, _, p, _⟩ := I.tuple h
      exact SeqAt.RcNeAt.tuple_str z t p (by omega) X.prog X.w X.xe _ (fin true q)
  · obtain rfl : v = Value.ref a := rx
    obtain ⟨o, es, ep, e1, e2, e3⟩ := dict_at I.hok h hd
    exact ne_dict_text z t e1 e2 e3 (by omega) X.prog X.w X.xe _ (fin true q)
  · obtain rfl : v = Value.ref a := rx
    obtain ⟨C', f, fd, ps, hC', F1, b1, m1, m2, m3, m4, m5⟩ := F.ex q hq
    rw [hC] at hC'
    cases hC'
    obtain ⟨mA, J, _⟩ := ins_get I.hok ha
    obtain ⟨od, J, _⟩ := J.look
    refine ne_own (tb := .type "str") hu I.kIn J (PySem.W.Looks.of_pure rfl) m5 m1 m2 m3 m4 ?_
    refine thn (run_fnA (A := X.A.in1) (ds := []) (dvs := []) (E := fun _ _ _ _ => False) rfl F1 hr.in1 b1 .nil (fun _ _ _ _ _ _ h => h.elim) I (us := [.ref a, .str z t]) (vs := [V.ref a, V.str z]) (.cons (show RelV (V.ref a) (.ref a) from rfl) (.cons (show RelV (V.str z) (.str z t) from ⟨t, rfl⟩) .nil)) hs) fun r s' z => ?_
    obtain ⟨v, H', I', rv, b, rfl, q2⟩ := z
    cases rv
    exact ⟨b, rfl, .bl (!b), H', I', rfl, q2⟩
theorem eqAt_mem {x : String} {pf : List AV → M AV} (h : eqAt fs x = some pf) : ∃ q ∈ fs, q.1 = x ∧ q.2 = pf := by
  obtain ⟨q, h1, h2⟩ := Option.map_eq_some_iff.mp h
  have h3 := List.find?_some h1
  simp only [decide_eq_true_eq] at h3
  exact ⟨q, List.mem_of_find?_eq_some h1, h3, h2⟩
theorem o_ne3 : Op2 X G W (fun x y H Q => rNeTxt X G fs x y H Q ∨ (rNe x y H Q ∨ rNeD X.K x y H Q)) (ne3M fs) := fun x y σ H Q q => by
  obtain ⟨ρ, fr, st, v, w, r, hv, hw, p⟩ := q.un2
  unfold ne3M at p
  split at p
  · rename_i y'
    cases hw
    refine .inl ⟨y', rfl, ?_⟩
    unfold neTxt at p
    cases hv with
    | non => exact .inl ⟨rfl, p ρ H (Stp.refl _ _) r _ (.bl _)⟩
    | bl b => exact .inl ⟨rfl, p ρ H (Stp.refl _ _) r _ (.bl _)⟩
    | int b => exact .inl ⟨rfl, p ρ H (Stp.refl _ _) r _ (.bl _)⟩
    | str x =>
      refine .inl ⟨rfl, ?_⟩
      rw [dec_str]
      exact p ρ H (Stp.refl _ _) r _ (.bl _)
    | tup h a => exact .inr (.inl ⟨_, _, rfl, .inr (.of h), p ρ H (Stp.refl _ _) r _ (.bl _)⟩)
    | ktup h a => exact .inr (.inl ⟨_, _, rfl, .inr h.sq, p ρ H (Stp.refl _ _) r _ (.bl _)⟩)
    | lst h n a => exact .inr (.inl ⟨_, _, rfl, .inl (.inl h), p ρ H (Stp.refl _ _) r _ (.bl _)⟩)
    | dk h n a => exact .inr (.inr (.inl ⟨_, _, rfl, h, .inl ⟨_, rfl⟩, p ρ H (Stp.refl _ _) r _ (.bl _)⟩))
    | dt h n a => exact .inr (.inr (.inl ⟨_, _, rfl, h, .inr ⟨_, rfl⟩, p ρ H (Stp.refl _ _) r _ (.bl _)⟩))
    | @ins C a Ca dx fs' vs g h n qf =>
      cases e : eqAt fs C with
      | none => simp only [e] at p; exact p.elim
      | some pf =>
        simp only [e] at p
        obtain ⟨q0, h1, h2, h3⟩ := eqAt_mem e
        refine .inr (.inr (.inr ⟨q0, h1, _, Ca, dx, vs, rfl, by rw [h2]; exact g, h, rfl, ρ, [], st, [.ins C fs', .str y'], r.reframe rfl fun i v e => by simp at e, .cons (.ins g h n qf) (.cons (.str _) .nil), ?_⟩))
        rw [h3]
        show Pst (cx X G) _ ρ [] [] H _ (pf [.ins C fs', .str y'] st)
        cases ep : pf [.ins C fs', .str y'] st with
        | stuck => simp only [ep] at p; exact p.elim
        | exc x st1 => simp only [ep] at p; exact p.elim
        | ok z st1 =>
          simp only [ep, R.nox_ok, R.bind_ok] at p
          split at p
          · rename_i b
            intro ρ' H' s' r' w hw
            cases hw
            exact ⟨b, rfl, p ρ' H' s' (r.back s' r') _ (.bl _)⟩
          · exact p.elim
    | _ => exact p.elim
  · exact .inr (o_ne2 x y σ H Q ⟨ρ, fr, st, [v, w], r, .cons hv (.cons hw .nil), p⟩)
theorem op_ne3 (hr : Room (k + 1) X.A) (F : EqsOk X G k fs) : OpR X (compareOp .NotEq) (fun x y H Q => rNeTxt X G fs x y H Q ∨ (rNe x y H Q ∨ rNeD X.K x y H Q)) := OpR.or (op_neTxt hr F) (op_ne2 (by have := hr.un; omega))
end
/-! ### a tuple beside () -/
def rEqE (K : PySem.W.Frag) : R2 := fun x y H Q => ∃ a b xs, x = .ref a ∧ y = .ref b ∧ SqT K H a xs ∧ SqT K H b [] ∧ Q (.bl xs.isEmpty) H
def eqEM : AV → AV → M AV := fun v w st => match deT v, deT w with
  | some xs, some [] => .ok (.bl xs.isEmpty) st
  | _, _ => .stuck
section
variable {X : Cx} {G : String → Option Addr} {W : WX}
theorem op_eqE (hu : X.A.units + 1 < cLine) : OpR X (compareOp .Eq) (rEqE X.K) := by
  intro pins s σ H x y v u Q I rx ry h
  obtain ⟨a, b, xs, rfl, rfl, h1, h2, q⟩ := h
  obtain rfl : v = Value.ref a := rx
  obtain rfl : u = Value.ref b := ry
  obtain ⟨its, r1, p1, _⟩ := I.tuple h1
  obtain ⟨its2, r2, p2, _⟩ := I.tuple h2
  have e2 : its2 = [] := by cases r2; rfl
  subst e2
  have z := SeqAt.RcAt.tuples (A := X.A) (s := s) (e := fun _ => true) p1 p2 (by omega) (fun j _ h2 => by simp at h2)
  refine z X.prog X.w X.xe _ ?_
  have hl := r1.length
  have e : ((List.range (min its.toArray.size ([] : List Value).toArray.size)).all (fun _ => true) && its.toArray.size == ([] : List Value).toArray.size) = xs.isEmpty := by
    cases xs with
    | nil => cases r1; rfl
    | cons x xs => cases r1; simp
  rw [e]
  exact ⟨.bl _, H, I, rfl, q⟩
theorem o_eqE : Op2 X G W (rEqE X.K) eqEM := fun x y σ H Q q => by
  obtain ⟨ρ, fr, st, v, w, r, hv, hw, p⟩ := q.un2
  unfold eqEM at p
  split at p
  · rename_i xs h1 h2
    obtain ⟨a, vs, rfl, hs, hr⟩ := deT_ok hv h1
    obtain ⟨b, ws, rfl, hs', hr'⟩ := deT_ok hw h2
    cases hr'
    refine ⟨a, b, vs, rfl, rfl, hs, hs', ?_⟩
    have e : vs.isEmpty = xs.isEmpty := by cases hr <;> rfl
    rw [e]
    exact p ρ H (Stp.refl _ _) r _ (.bl _)
  · exact p.elim
end
end MM
set_option Elab.async false
set_option linter.all false
set_option maxRecDepth 100000
set_option maxHeartbeats 4000000
/-! repr of nested things that hold own objects: each shown over the layer's invariant. -/
namespace MM
open PySem PySem.Spec PyProof.Rows L2
open PySem.Builtin PySem.Builtin.List
/-- shown at any place below the running body -/
def RepG (X : Cx) (n : Nat) (as : List Addr) (H0 : Hp) (x : V) (t : Str) : Prop :=
  ∀ (base : Nat), base + t.length ≤ sizeLine → ∀ (A : Around) (g : List Code) (pins : List (Addr × Obj)) (σ : L2.St) (H : Hp) (s : Shared) (u : Value), A.frames = X.A.frames → Room n A → A.guards = some g → (∀ b ∈ as, Clear g b) →
    Inv X pins σ H s → Ext H0 H → RelV x u → wpAny (model X.prog X.w) A (pyReprUnder base u) (fun t' s' => t' = t ∧ ∃ H', Inv X pins σ H' s' ∧ Ext H H') X.xe s
section
variable {X : Cx} {n m : Nat} {as bs : List Addr} {H0 H1 : Hp} {x : V} {t : Str}
theorem RepG.mono (h : RepG X n as H0 x t) (hn : n ≤ m) (ha : ∀ b ∈ as, b ∈ bs) : RepG X m bs H0 x t := fun base hb A g pins σ H s u fr hr hg hcl I ex ru => h base hb A g pins σ H s u fr (hr.mono hn) hg (fun b q => hcl b (ha b q)) I ex ru
theorem RepG.of_K {d : Nat} (h : ∀ (pins : List (Addr × Obj)) (σ : L2.St) (H : Hp) (s : Shared) (u : Value), Inv X pins σ H s → Ext H0 H → RelV x u → ReprK X.prog X.w as s.heap d u t) (hd : d ≤ 100) : RepG X n as H0 x t := fun base hb A g pins σ H s u fr hr hg hcl I ex ru =>
  h pins σ H s u I ex ru base hb A g X.xe s _ hg hcl (by have := hr.un; omega) (fun _ _ e => e) fun h' tk hk => ⟨rfl, H, I.kept hk, Ext.rfl'⟩
theorem RepG.non : RepG X n [] H0 .non "None" := .of_K (d := 0) (fun pins σ H s u I ex ru => by obtain rfl : u = Value.none := ru; exact .of_is ReprIs.none _ _ _) (by omega)
theorem RepG.bl (b : Bool) : RepG X n [] H0 (.bl b) (if b then "True" else "False") := .of_K (d := 0) (fun pins σ H s u I ex ru => by obtain rfl : u = Value.bool b := ru; exact .of_is (ReprIs.bool b) _ _ _) (by omega)
theorem RepG.int {i : Int} (h : i.natAbs.log2 < 1920) : RepG X n [] H0 (.int i) (toString i) := .of_K (d := 0) (fun pins σ H s u I ex ru => by obtain ⟨tk, rfl⟩ := (show ∃ tk, u = Value.int i tk from ru); exact .of_is (ReprIs.int tk h) _ _ _) (by omega)
theorem RepG.str {z : Str} (h : (reprText z).length ≤ sizeLine) : RepG X n [] H0 (.str z) (reprText z) := .of_K (d := 0) (fun pins σ H s u I ex ru => by obtain ⟨tk, rfl⟩ := (show ∃ tk, u = Value.str z tk from ru); exact .of_is (ReprIs.str z tk h) _ _ _) (by omega)
theorem under_frames (A : Around) (id : String) (args : Args) : (A.under (.builtin id args)).frames = A.frames := by
  show pushEnvs [] A.frames = A.frames
  cases A.frames <;> rfl
theorem under_room {A : Around} {id : String} {args : Args} (h : Room (n + 1) A) (hu : (A.under (.builtin id args)).units = A.units + 1) (hd : (Code.builtin id args).weight ≤ 1) : Room n (A.under (.builtin id args)) :=
  ⟨h.hd, by have := h.dp; show A.depth + (Code.builtin id args).weight + 3 * n + 5 < _; omega, by have := h.un; rw [hu]; omega⟩
theorem wt_list (args : Args) : (Code.builtin "list.__repr__.loop" args).weight ≤ 1 := by
  show Code.frames _ + (if Code.isCreation _ then 1 else 0) + (if Code.isGuard _ then 1 else 0) + (if Code.isCaller _ then claimMargin else 0) ≤ 1
  rw [isGuard_list_loop]
  exact Nat.le_refl 1
theorem wt_tup (args : Args) : (Code.builtin "tuple.__repr__.under" args).weight ≤ 1 := by
  show Code.frames _ + (if Code.isCreation _ then 1 else 0) + (if Code.isGuard _ then 1 else 0) + (if Code.isCaller _ then claimMargin else 0) ≤ 1
  rw [isGuard_tuple_repr_under]
  exact Nat.le_refl 1
/-- the list at P is pinned -/
abbrev partsO (acc : Array Value) (c : Nat) : Obj := ⟨.type "list", none, .seq acc c, #[]⟩
theorem repin {pins : List (Addr × Obj)} {σ : L2.St} {H : Hp} {s : Shared} {P : Addr} {o : Obj} (I : Inv X pins σ H s) (h1 : s.heap.get? P = some o) (h2 : H P = none) (h3 : P ≠ X.env.locals) (h4 : P ∉ X.fs) (h5 : ∀ v, o.data ≠ .cell v) : Inv X ((P, o) :: pins) σ H s := I.pins_of fun p hp => by
  rcases List.mem_cons.mp hp with e | hp
  · rw [e]; exact ⟨h1, h2, h3, h4, h5⟩
  · exact I.pin p (List.mem_append_right _ hp)
theorem repG_loop {a P : Addr} {vs : List V} {ts : List Str} {base : Nat} (hS : SqL X.K H0 a vs) (hna : a ∉ as) (hl : ts.length = vs.length) (hT : ∀ (i : Nat) (x : V), vs[i]? = some x → ∃ t, ts[i]? = some t ∧ RepG X n as H0 x t)
    {A : Around} {g : List Code} (fr : A.frames = X.A.frames) (hr : Room (n + 1) A) (hg : A.guards = some g) (hcl : ∀ b ∈ as, Clear g b) (hsz : base + (listText ts).length ≤ sizeLine) {R : Result → Shared → Prop} {pins : List (Addr × Obj)} {σ : L2.St}
    (hR : ∀ s' H' u, Inv X pins σ H' s' → Ext H1 H' → R (.ok (.ret (.str (listText ts) u))) s') (hE : ∀ e s', X.xe e s' → R (.error e) s') (hP0 : X.s_0.heap.objs.size ≤ P) (hP3 : ∀ p ∈ X.pn ++ pins, p.1 ≠ P) :
    ∀ (k i : Nat) (s : Shared) (H : Hp) (acc : Array Value) (c : Nat) (done : List (Str × Tok)), vs.length - i = k → i ≤ vs.length → Inv X ((P, partsO acc c) :: pins) σ H s → Ext H0 H → Ext H1 H → acc.toList = strValues done → done.map (·.1) = ts.take i →
      codeAny (model X.prog X.w) A (.builtin "list.__repr__.loop" ⟨[.ref a, rawInt i, .ref P, rawInt ((base + piled (ts.take i) : Nat) : Int)], []⟩) R s := by
  have hL := textFrom_len ts 0 "["
  have hX : (listText ts).length = (textFrom 0 "[" ts).length + 1 := by
    show (textFrom 0 "[" ts ++ "]").length = _
    rw [strLen_append]; rfl
  have hsz1 : ts.length ≤ sizeLine := by
    have h1 := hL.1
    rw [if_neg (Nat.lt_irrefl 0)] at h1
    omega
  have hsz2 : ∀ t ∈ ts, t.length ≤ sizeLine := fun t ht => by have h2 := hL.2.1 t ht; omega
  have hp3 := piled_le_listText ts
  have hz : (listText ts).length ≤ sizeLine := by omega
  intro k
  induction k with
  | zero =>
    intro i s H acc c done hk hi I ex ex1 hacc hdone
    have hin : i = vs.length := by omega
    obtain ⟨its, rv, ⟨o, na, ho, hc, _, hd⟩, _⟩ := I.list (hS.ext ex)
    have hil := rv.length
    obtain ⟨hP, hPn, _, _, _⟩ := I.pin (P, partsO acc c) (List.mem_append_right _ List.mem_cons_self)
    refine codeAny_builtin F.entry_list_repr_loop ?_
    show wpAny _ _ («list.__repr__.loop» ⟨[.ref a, .int i 0, .ref P, .int ((base + piled (ts.take i) : Nat) : Int) 0], []⟩) _ _ s
    rw [repr_loop_tree]
    refine wpAny_bind (wpAny_listItems ho hd ?_)
    have hnone : its.toArray[(i : Int).toNat]? = none := by simp [hin, hil]
    simp only [hnone]
    unfold reprEnd
    refine wpAny_bind (wpAny_listItems hP rfl ?_)
    rw [hacc, repr_fold]
    refine wpAny_bind (wpAny_pure ?_)
    have hall : done.map (·.1) = ts := by rw [hdone, hin, ← hl, List.take_length]
    rw [hall]
    refine wpAny_bind (wpAny_mkStr (wpAny_pure ?_) hz)
    exact hR _ H _ ((I.pins_of fun p hp => I.pin p (List.mem_append_right _ (List.mem_cons_of_mem _ hp))).tok _) ex1
  | succ k ih =>
    intro i s H acc c done hk hi I ex ex1 hacc hdone
    have hlt : i < vs.length := by omega
    obtain ⟨its, rv, ⟨o, na, ho, hc, _, hd⟩, _⟩ := I.list (hS.ext ex)
    have hil := rv.length
    have hlt' : i < its.length := by omega
    obtain ⟨t, ht, hrep⟩ := hT i vs[i] (List.getElem?_eq_getElem hlt)
    have ru : RelV vs[i] its[i] := by
      obtain ⟨u, e1, e2⟩ := rv.get (List.getElem?_eq_getElem hlt)
      rw [List.getElem?_eq_getElem hlt'] at e1
      cases e1
      exact e2
    have hp1 := piled_take_succ ht
    have hp2 := piled_take_le ts (i + 1)
    refine codeAny_builtin F.entry_list_repr_loop ?_
    show wpAny _ _ («list.__repr__.loop» ⟨[.ref a, .int i 0, .ref P, .int ((base + piled (ts.take i) : Nat) : Int) 0], []⟩) _ _ s
    rw [repr_loop_tree]
    refine wpAny_bind (wpAny_listItems ho hd ?_)
    have hsome : its.toArray[(i : Int).toNat]? = some its[i] := by simp [hlt']
    simp only [hsome]
    rw [Int.toNat_natCast]
    have hun := units_under_list_loop A ⟨[.ref a, .int i 0, .ref P, .int ((base + piled (ts.take i) : Nat) : Int) 0], []⟩
    have hdp : (Code.builtin "list.__repr__.loop" ⟨[.ref a, .int i 0, .ref P, .int ((base + piled (ts.take i) : Nat) : Int) 0], []⟩).weight ≤ 1 := wt_list _
    refine wpAny_bind (wpAny_holding (wpAny_mono (hrep (base + piled (ts.take i) + 1) (by omega) _ _ _ σ H s its[i] (by rw [under_frames]; exact fr) (under_room hr hun hdp) (guards_under_guard (isGuard_list_loop _) hg) (fun b hb => (hcl b hb).cons (a := a) fun e => hna (e ▸ hb)) I ex ru) (fun t' s2 q => ?_) fun e s2 q => hE e s2 q))
    obtain ⟨rfl, H2, I2, ex2⟩ := q
    obtain ⟨hP, hPn, hPl, hPf, _⟩ := I2.pin (P, partsO acc c) (List.mem_append_right _ List.mem_cons_self)
    refine wpAny_bind (wpAny_mkStr ?_ (hsz2 _ (List.mem_of_getElem? ht)))
    refine wpAny_bind ?_
    show wpAny _ _ (updateSeq P _) _ _ _
    have hasz : acc.size ≤ sizeLine := by
      have e1 : acc.toList.length = acc.size := by simp
      have e2 : (strValues done).length = done.length := by simp [strValues]
      have e3 : done.length = (ts.take i).length := by rw [← hdone, List.length_map]
      have e4 : (ts.take i).length ≤ i := by rw [List.length_take]; omega
      rw [hacc] at e1; omega
    refine wpAny_updateSeq hP rfl (wpAny_pure ⟨F.quiet_list_repr_loop _, ?_⟩) hasz
    have e1 : ((i : Int) + 1) = ((i + 1 : Nat) : Int) := by omega
    have e2 : base + piled (ts.take i) + (t'.length + 2) = base + piled (ts.take (i + 1)) := by omega
    rw [e1, e2]
    have I3 : Inv X pins σ H2 s2 := I2.pins_of fun p hp => I2.pin p (List.mem_append_right _ (List.mem_cons_of_mem _ hp))
    have I4 := I3.turned (t' := s2.toks + 1) (it := P) (h' := s2.heap.update P (Obj.mapSeq (·.push (.str t' s2.toks)))) (fun b o hb e => (Heap.get?_update_other _ _ (fun h : P = b => hb h.symm)).trans e) hPn hPl (.inr hP0)
      (fun y c hc z => by
        subst z
        obtain ⟨v, oc, q1, q2⟩ := I2.cell y _ hc
        rw [hP] at q1
        cases q1
        cases q2) hP3
    refine ih (i + 1) _ H2 (acc.push (.str t' s2.toks)) _ (done ++ [(t', s2.toks)]) (by omega) hlt (repin I4 (Heap.get?_update_self _ hP rfl) hPn hPl hPf fun v => by simp) (ex.trans ex2) (ex1.trans ex2) (by simp [hacc, strValues]) (by simp [List.take_add_one, ht, hdone])
theorem RepG.list {a : Addr} {vs : List V} {ts : List Str} (hS : SqL X.K H0 a vs) (hna : a ∉ as) (hl : ts.length = vs.length) (hT : ∀ (i : Nat) (x : V), vs[i]? = some x → ∃ t, ts[i]? = some t ∧ RepG X n as H0 x t) : RepG X (n + 1) (a :: as) H0 (.ref a) (listText ts) := by
  cases vs with
  | nil =>
    have e : ts = [] := List.eq_nil_of_length_eq_zero hl
    subst e
    rw [listText_nil]
    refine .of_K (d := 0) (fun pins σ H s u I ex ru => ?_) (by omega)
    obtain rfl : u = Value.ref a := ru
    obtain ⟨its, rv, ⟨o, m, ho, hc, _, hd⟩, _⟩ := I.list (hS.ext ex)
    cases rv
    exact ReprK.listEmpty ho hc hd
  | cons v vs =>
    intro base hb A g pins σ H s u fr hr hg hcl I ex ru
    obtain rfl : u = Value.ref a := ru
    obtain ⟨its, rv, ⟨o, m, ho, hc, hdn, hd⟩, _⟩ := I.list (hS.ext ex)
    cases rv with
    | @cons _ u0 _ us0 r0 r1 =>
      have hca : Clear g a := hcl a (.head _)
      have hun : A.units < cLine := by have := hr.un; omega
      have fin : ∀ s' H' tk, Inv X pins σ H' s' → Ext H H' → callEnd (fun v s' => (∃ x u, v = .str x u) ∧ ∃ x u, v = .str x u ∧ x = listText ts ∧ ∃ H', Inv X pins σ H' s' ∧ Ext H H') X.xe (.ok (.ret (.str (listText ts) tk))) s' := fun s' H' tk I' e' => ⟨⟨_, _, rfl⟩, _, _, rfl, rfl, H', I', e'⟩
      refine wpAny_pyReprUnder_ref (by omega) (wpAny_pyReprObjUnder_twin (twin := "list.__repr__.under") ⟨o, ho, hc⟩ F.slot_list_repr.toG rfl hun (call_twin_plain F.plain_list_repr_under F.entry_list_repr_under F.check_list_repr_under ⟨o, ho, hc⟩ F.slot_list_repr.toG (F.args_list_repr_1 _) ?_))
      refine wpAny_list_repr_head (A := A.in1) hg (fun v rest kw hm => listSameRef_of_ne (hca _ _ _ _ hm)) ho hd ?_
      refine wpAny_bind (m := newList []) (wpAny_newObj_type ?_)
      refine wpAny_pure ⟨F.quiet_list_repr_loop _, ?_⟩
      have I1 : Inv X pins σ H { s with heap := s.heap.push { cls := .type "list", dict := none, data := .seq #[] } } := I.kept (t' := s.toks) fun b u e => Heap.get?_push_of_some _ e
      have szl : s.heap.objs.size ≤ s.heap.objs.size := Nat.le_refl _
      have I2 : Inv X ((s.heap.objs.size, partsO #[] 0) :: pins) σ H { s with heap := s.heap.push { cls := .type "list", dict := none, data := .seq #[] } } := repin I1 (Heap.get?_push_size _ rfl) I.fresh (fun e => Nat.lt_irrefl _ (Nat.lt_of_lt_of_eq I.lt e)) (I.nofs szl) fun v => by simp
      refine repG_loop (n := n) (as := as) (H1 := H) hS hna hl hT fr hr hg (fun b hb => hcl b (.tail _ hb)) hb (fun s' H' tk I' e' => fin s' H' tk I' e') (fun e s' h => h) I.sz (fun p hp e => ?_) _ 0 _ H #[] 0 [] rfl (Nat.zero_le _) I2 ex Ext.rfl' rfl (by simp)
      exact Nat.lt_irrefl _ (Nat.lt_of_lt_of_eq (Heap.lt_size (I.pin p hp).1) e.symm)
/-! ### tuples -/
theorem repG_fold {A : Around} {g : List Code} (fr : A.frames = X.A.frames) (hr : Room n A) (hg : A.guards = some g) (hcl : ∀ b ∈ as, Clear g b) {pins : List (Addr × Obj)} {σ : L2.St} :
    ∀ (vs : List V) (its : List Value) (ts : List Str) (acc : Array Str) (k : Nat) (s : Shared) (H : Hp) (Q : (Array Str × Nat) → Shared → Prop), Vals vs its → ts.length = vs.length → (∀ (i : Nat) (x : V), vs[i]? = some x → ∃ t, ts[i]? = some t ∧ RepG X n as H0 x t) → k + piled ts ≤ sizeLine → Inv X pins σ H s → Ext H0 H →
      (∀ s' H', Inv X pins σ H' s' → Ext H H' → Q ⟨acc ++ ts.toArray, k + piled ts⟩ s') → wpAny (model X.prog X.w) A (forIn its (⟨acc, k⟩ : (Array Str × Nat)) tupBody) Q X.xe s
  | [], _, ts, acc, k, s, H, Q, .nil, hl, hT, hk, I, ex, hq => by
    have e : ts = [] := List.eq_nil_of_length_eq_zero hl
    subst e
    rw [List.forIn_nil]
    refine wpAny_pure ?_
    have z := hq s H I Ext.rfl'
    simpa [piled] using z
  | v :: vs, _, ts, acc, k, s, H, Q, .cons (b := u) (l₂ := us) r0 r1, hl, hT, hk, I, ex, hq => by
    cases ts with
    | nil => simp at hl
    | cons t ts =>
      obtain ⟨t', e, hrep⟩ := hT 0 v rfl
      have e : t = t' := by simpa using e
      subst e
      rw [piled_cons] at hk
      rw [List.forIn_cons]
      refine wpAny_bind (wpAny_bind (wpAny_mono (hrep (k + 1) (by omega) A g pins σ H s u fr hr hg hcl I ex r0) (fun t' s2 q => ?_) fun _ _ q => q))
      obtain ⟨rfl, H2, I2, ex2⟩ := q
      refine wpAny_pure ?_
      refine repG_fold fr hr hg hcl vs us ts (acc.push t') (k + (t'.length + 2)) s2 H2 Q r1 (by simpa using hl) (fun i x h => by simpa using hT (i + 1) x (by simpa using h)) (by omega) I2 (ex.trans ex2) fun s' H' I' ex' => ?_
      have z := hq s' H' I' (ex2.trans ex')
      have e : k + piled (t' :: ts) = k + (t'.length + 2) + piled ts := by rw [piled_cons]; omega
      rw [e] at z
      simpa using z
theorem RepG.tuple {a : Addr} {vs : List V} {ts : List Str} (hS : SqT X.K H0 a vs) (hna : a ∉ as) (hl : ts.length = vs.length) (hT : ∀ (i : Nat) (x : V), vs[i]? = some x → ∃ t, ts[i]? = some t ∧ RepG X n as H0 x t) : RepG X (n + 1) (a :: as) H0 (.ref a) (tupleText ts) := by
  intro base hb A g pins σ H s u fr hr hg hcl I ex ru
  obtain rfl : u = Value.ref a := ru
  obtain ⟨its, rv, ⟨o, ho, hc, m, hd⟩, _⟩ := I.tuple (hS.ext ex)
  have hca : Clear g a := hcl a (.head _)
  have hun : A.units < cLine := by have := hr.un; omega
  have hp := piled_le_tupleText ts
  have hsz : (tupleText ts).length ≤ sizeLine := by omega
  have hil : ts.length = its.length := by rw [hl, rv.length]
  refine wpAny_pyReprUnder_ref (by omega) (wpAny_pyReprObjUnder_twin (twin := "tuple.__repr__.under") ⟨o, ho, hc⟩ F.slot_tuple_repr rfl hun (call_twin_own (F.quiet_tuple_repr_under _) F.entry_tuple_repr_under F.check_tuple_repr_under ⟨o, ho, hc⟩ F.slot_tuple_repr (F.args_tuple_repr_1 _) ?_))
  rw [tuple_repr_tree, tupleReprUnderWay_eq]
  refine wpOwn_bind (wpOwn_stackTailAny hg (tupGuardF_off _) (tupGuardF_pos _) ?_)
  have hn : (g.any fun c => tupGuardF (.ref a) (c, default)) = false := by
    rw [List.any_eq_false]
    intro c hcm
    rw [tupGuardF_of_clear hca c hcm]
    exact Bool.false_ne_true
  rw [hn]
  refine wpOwn_of_wpAny ?_
  show wpAny _ _ (tupleReprRest base (.ref a)) _ _ s
  unfold tupleReprRest Builtin.Tuple.tupleItemsOf
  refine wpAny_bind (wpAny_bind (wpAny_seqItems ho hd (wpAny_pure ?_)))
  rw [← Array.forIn_toList]
  have hu := units_under_tuple_repr_under A ⟨[.ref a, rawInt base], []⟩
  refine wpAny_bind (repG_fold (by rw [under_frames]; exact fr) (under_room hr hu (wt_tup _)) (guards_under_guard (isGuard_tuple_repr_under _) hg) (fun b hb => (hcl b (.tail _ hb)).cons (a := a) fun e => hna (e ▸ hb)) vs its ts #[] base s H _ rv hl hT (by omega) I ex fun s' H' I' ex' => ?_)
  refine wpAny_bind (wpAny_mkStr (wpAny_pure ?_) (by simpa [tupleText, hil] using hsz))
  refine ⟨⟨_, _, rfl⟩, _, _, rfl, ?_, H', I'.tok _, ex'⟩
  simp [tupleText, hil]
end
end MM
set_option Elab.async false
set_option linter.all false
set_option maxRecDepth 100000
set_option maxHeartbeats 4000000
/-! repr: own objects, dicts of flat things; the mirror's repr. -/
namespace MM
open PySem PySem.Spec PyProof.Rows L2
section
variable {X : Cx} {n k : Nat} {H0 : Hp} {t : Str} {a C f dx : Addr} {fs : List (Str × V)} {fd : FuncData} {ps : List Str} {sp : Sp}
theorem RepG.own (hH : H0 a = some (.ins C dx fs)) (F : FnOk X.prog X.w X.K X.mg X.base CX0 k f fd ps sp) (hb : Binds X.K fd ps []) (hs : PySem.W.findIn X.K (.ref C) "__repr__" = some (some (.ref f))) (hf : PySem.W.isFn X.K (.ref f) = true) (hk : k ≤ n)
    (hsp : ∀ H, Ext H0 H → sp [.ref a] H (fun v H' => v = .str t ∧ Ext H H') fun _ _ _ => False) : RepG X n [] H0 (.ref a) t := by
  intro base hz A g pins σ H s u fr hr hg hcl I ex ru
  obtain rfl : u = Value.ref a := ru
  obtain ⟨mA, J, _⟩ := ins_get I.hok (ex _ _ hH)
  obtain ⟨od, J, _⟩ := J.look
  have hu : A.units < cLine := by have := hr.un; omega
  have KX := I.kIn
  have call1 : wpAny (model X.prog X.w) A (call (.ref f) [.ref a]) (fun v s' => ∃ tk, v = .str t tk ∧ ∃ H', Inv X pins σ H' s' ∧ Ext H H') X.xe s := by
    refine thn (run_fnA (A := A) (ds := []) (dvs := []) (E := fun _ _ _ _ => False) fr F (hr.mono hk) hb .nil (fun _ _ _ _ _ _ h => h.elim) I (us := [.ref a]) (vs := [V.ref a]) (.cons (show RelV (V.ref a) (.ref a) from rfl) .nil) (hsp H ex)) fun r s' z => ?_
    obtain ⟨v, H', I', rv, rfl, e'⟩ := z
    obtain ⟨tk, rfl⟩ := (show ∃ tk, r = Value.str t tk from rv)
    exact ⟨tk, rfl, H', I', e'⟩
  refine wpAny_pyReprUnder_ref (by omega) ?_
  unfold pyReprObjUnder pyReprObjBy
  refine wpAny_bind (wpAny_cRoomFor hu ?_)
  refine wpAny_bind (wpAny_bind (J.type.here ((PySem.W.looks_findIn KX hs).here ?_)))
  simp only [Option.isNone_some, Bool.false_eq_true, if_false]
  refine wpAny_bind ?_
  simp only [callSpecialIfBoundBy?, bindSpecialIfBound?]
  refine wpAny_holding (wpAny_bind (wpAny_bind (wpAny_bind (J.type.here ((PySem.W.looks_findIn KX hs).here ?_)))))
  have fin : wpAny (model X.prog X.w) A (call (.ref f) [.ref a] >>= fun v => pure (some v)) (fun o s' => ∃ tk, o = some (.str t tk) ∧ ∃ H', Inv X pins σ H' s' ∧ Ext H H') X.xe s := wpAny_bind (wpAny_mono call1 (fun v s' z => wpAny_pure (let ⟨tk, e, q⟩ := z; ⟨tk, by rw [e], q⟩)) fun _ _ z => z)
  have fin2 : wpAny (model X.prog X.w) A (call (.ref f) [.ref a] >>= fun v => pure (some v)) (fun o s' => wpAny (model X.prog X.w) A (match o with
      | some r => do if ← isInstance r (.type "str") then pure r else raiseError "TypeError" s!"__repr__ returned non-string (type {← typeNameOf r})"
      | none => unsupported "repr:special-get-raises") (fun v s' => ∃ x u, v = .str x u ∧ x = t ∧ ∃ H', Inv X pins σ H' s' ∧ Ext H H') X.xe s') X.xe s := wpAny_mono fin (fun o s' z => by
    obtain ⟨tk, rfl, q⟩ := z
    exact wpAny_bind (wpAny_isInstance (T := "str") (b := true) rfl isSubtype_str_str (wpAny_pure ⟨_, _, rfl, rfl, q⟩))) fun _ _ z => z
  refine wpAny_bind (wpAny_askSetting (wpAny_ite ?_))
  split
  · exact wpAny_bind ((PySem.W.bind_fn KX _ (beq_iff_eq.mp hf)).here (wpAny_pure (by exact fin2)))
  · exact wpAny_tryCatch (wpAny_bind ((PySem.W.bind_fn KX _ (beq_iff_eq.mp hf)).here (wpAny_pure (by exact fin2))))
end
/-! ### the mirror -/
def flD : AV → Option PyData
  | .non => some .none
  | .bl b => some (.bool b)
  | .int i => some (.int i)
  | .str x => some (.str x)
  | _ => none
def keyD : Key → PyData
  | .inl i => .int i
  | .inr x => .str x
def flDs : List (Key × AV) → Option (List (PyData × PyData))
  | [] => some []
  | (k, v) :: r => match flD v, flDs r with
    | some d, some ds => some ((keyD k, d) :: ds)
    | _, _ => none
mutual
/-- the text (of what can be shown) -/
def shA (fs : Eqs) : AV → Str
  | .non => "None"
  | .bl b => if b then "True" else "False"
  | .int i => toString i
  | .str x => reprText x
  | .tup xs => tupleText (shAs fs xs)
  | .lst xs => listText (shAs fs xs)
  | .dk kvs => (match flDs kvs with
    | some ds => (PyData.dict ds).shown
    | none => "")
  | .dt _ => "{}"
  | .ins C gs => (match eqAt fs C with
    | some pf => (match pf [.ins C gs] [] with
      | .ok (.str t) [] => t
      | _ => "")
    | none => "")
  | _ => ""
def shAs (fs : Eqs) : List AV → List Str
  | [] => []
  | x :: xs => shA fs x :: shAs fs xs
end
mutual
/-- a bound of the text's length, none of what can't be shown -/
def szA (fs : Eqs) : AV → Option Nat
  | .non => some 4
  | .bl _ => some 5
  | .int i => if i.natAbs.log2 < 1920 then some (toString i : Str).length else none
  | .str x => some (reprText x).length
  | .tup xs => (szAs fs xs).map (· + 3)
  | .lst xs => (szAs fs xs).map (· + 3)
  | .dk kvs => (match flDs kvs with
    | some ds => if (PyData.dict ds).showable = true then some (PyData.dict ds).shown.length else none
    | none => none)
  | .dt kvs => if kvs.isEmpty = true then some 2 else none
  | .ins C gs => (match eqAt fs C with
    | some pf => (match pf [.ins C gs] [] with
      | .ok (.str t) [] => some t.length
      | _ => none)
    | none => none)
  | _ => none
def szAs (fs : Eqs) : List AV → Option Nat
  | [] => some 0
  | x :: xs => match szA fs x, szAs fs xs with
    | some a, some b => some (a + 2 + b)
    | _, _ => none
end
mutual
/-- how deep, own objects at k -/
def dpA (k : Nat) : AV → Nat
  | .tup xs => dpAs k xs + 1
  | .lst xs => dpAs k xs + 1
  | .ins _ _ => k
  | _ => 0
def dpAs (k : Nat) : List AV → Nat
  | [] => 0
  | x :: xs => max (dpA k x) (dpAs k xs)
end
theorem piled_tup (ts : List Str) : (tupleText ts).length ≤ piled ts + 3 := by
  unfold tupleText
  rw [strLen_append, strLen_append]
  have h1 : (Str.join ", " ts).length ≤ piled ts := by
    induction ts with
    | nil => exact Nat.zero_le _
    | cons t r ih =>
      cases r with
      | nil =>
        show t.length ≤ _
        rw [piled_cons]; omega
      | cons u r =>
        show (t ++ ", " ++ Str.join ", " (u :: r)).length ≤ _
        rw [strLen_append, strLen_append, piled_cons]
        have : (", " : Str).length = 2 := rfl
        omega
  have h2 : ("(" : Str).length = 1 := rfl
  have h4 : (",)" : Str).length = 2 := rfl
  have h5 : (")" : Str).length = 1 := rfl
  by_cases h : (ts.length == 1) = true
  · simp only [h, if_true]
    omega
  · simp only [h]
    simp only [Bool.false_eq_true, if_false]
    omega
theorem piled_lst (ts : List Str) : (listText ts).length ≤ piled ts + 3 := by
  have h := textFrom_len_le ts 0 "["
  have hX : (listText ts).length = (textFrom 0 "[" ts).length + 1 := by
    show (textFrom 0 "[" ts ++ "]").length = _
    rw [strLen_append]; rfl
  have h1 : ("[" : Str).length = 1 := rfl
  have h2 : piled ts = (ts.map (·.length)).sum + 2 * ts.length := by
    induction ts with
    | nil => rfl
    | cons t r ih =>
      have h' := textFrom_len_le r 0 "["
      rw [piled_cons, ih h' (by show (textFrom 0 "[" r ++ "]").length = _; rw [strLen_append]; rfl)]
      simp only [List.map_cons, List.sum_cons, List.length_cons]
      omega
  omega
mutual
theorem szA_le {fs : Eqs} : ∀ {v : AV} {n : Nat}, szA fs v = some n → (shA fs v).length ≤ n
  | .non, n, h => by simp only [szA, Option.some.injEq] at h; subst h; simp only [shA]; decide
  | .bl b, n, h => by simp only [szA, Option.some.injEq] at h; subst h; simp only [shA]; cases b <;> decide
  | .int i, n, h => by
    simp only [szA] at h
    split at h
    · cases h; simp only [shA]; exact Nat.le_refl _
    · cases h
  | .str x, n, h => by simp only [szA, Option.some.injEq] at h; subst h; simp only [shA]; exact Nat.le_refl _
  | .tup xs, n, h => by
    simp only [szA] at h
    obtain ⟨m, e1, e2⟩ := Option.map_eq_some_iff.mp h
    subst e2
    have := szAs_le e1
    have := piled_tup (shAs fs xs)
    simp only [shA]; omega
  | .lst xs, n, h => by
    simp only [szA] at h
    obtain ⟨m, e1, e2⟩ := Option.map_eq_some_iff.mp h
    subst e2
    have := szAs_le e1
    have := piled_lst (shAs fs xs)
    simp only [shA]; omega
  | .dk kvs, n, h => by
    simp only [szA] at h
    simp only [shA]
    split at h
    · split at h
      · cases h; simp_all
      · cases h
    · cases h
  | .dt kvs, n, h => by
    simp only [szA] at h
    split at h
    · cases h; simp only [shA]; decide
    · cases h
  | .ins C gs, n, h => by
    simp only [szA] at h
    simp only [shA]
    split at h
    · split at h
      · cases h; simp_all
      · cases h
    · cases h
  | .ktup _, n, h => by simp [szA] at h
  | .ptr _, n, h => by simp [szA] at h
  | .glo _, n, h => by simp [szA] at h
  | .ty _, n, h => by simp [szA] at h
theorem szAs_le {fs : Eqs} : ∀ {xs : List AV} {n : Nat}, szAs fs xs = some n → piled (shAs fs xs) ≤ n
  | [], n, h => by simp only [szAs, Option.some.injEq] at h; subst h; simp only [shAs]; exact Nat.le_refl _
  | x :: xs, n, h => by
    simp only [szAs] at h
    split at h
    · rename_i a b h1 h2
      cases h
      have := szA_le h1
      have := szAs_le h2
      simp only [shAs]
      rw [piled_cons]
      omega
    · cases h
end
end MM
set_option Elab.async false
set_option linter.all false
set_option maxRecDepth 100000
set_option maxHeartbeats 4000000
/-! repr: what the mirror tells is what is shown. -/
namespace MM
open PySem PySem.Spec PyProof.Rows L2
abbrev ρz : Rho := ⟨[], []⟩
theorem rep_nil {c : MC} {H : Hp} : Rep c ρz [] [] [] H := ⟨rfl, rfl, fun i v e => by simp at e, fun i j a e => by simp at e, fun i o e => by simp at e, fun a h => by cases h⟩
theorem no_has {a : Addr} : ¬ ρz.has a := fun z => by rcases z with z | z <;> cases z
section
variable {c : MC} {H : Hp} {fs : Eqs} {k : Nat}
theorem rd_fun {a : Addr} {u v : HO} (h1 : Rd H a u) (h2 : Rd H a v) (nu : ∀ o w, u ≠ .frz o w) (nv : ∀ o w, v ≠ .frz o w) : u = v := by
  rcases h1 with h1 | ⟨o, h1⟩ <;> rcases h2 with h2 | ⟨o', h2⟩ <;> rw [h1] at h2 <;> cases h2
  · rfl
  · exact absurd rfl (nu _ _)
  · exact absurd rfl (nv _ _)
  · rfl
mutual
theorem dp_det : ∀ {v w : AV} {x : V}, VR c ρz H v x → VR c ρz H w x → (szA fs v).isSome = true → (szA fs w).isSome = true → dpA k v = dpA k w
  | _, _, _, .non, h, _, _ => by cases h; rfl
  | _, _, _, .bl b, h, _, _ => by cases h; rfl
  | _, _, _, .int b, h, _, _ => by cases h; rfl
  | _, _, _, .str b, h, _, _ => by cases h; rfl
  | _, _, _, .ty b, _, h, _ => by simp [szA] at h
  | _, _, _, .ktup _ _, _, h, _ => by simp [szA] at h
  | _, _, _, .ptr _, _, h, _ => by simp [szA] at h
  | _, _, _, .glo _, _, h, _ => by simp [szA] at h
  | _, _, _, .tup h r, hw, a, b => by
    cases hw with
    | tup h' r' =>
      rw [h] at h'
      cases h'
      simp only [szA, Option.isSome_map] at a b
      simp only [dpA, dps_det r r' a b]
    | lst h' _ _ => exact absurd (rd_fun (.inl h) h' (by simp) (by simp)) (by simp)
    | dk h' _ _ => exact absurd (rd_fun (.inl h) h' (by simp) (by simp)) (by simp)
    | dt h' _ _ => exact absurd (rd_fun (.inl h) h' (by simp) (by simp)) (by simp)
    | ins _ h' _ _ => rw [h] at h'; cases h'
    | ktup _ _ => simp [szA] at b
    | ptr _ => simp [szA] at b
    | glo _ => simp [szA] at b
  | _, _, _, .lst h n r, hw, a, b => by
    cases hw with
    | lst h' _ r' =>
      have e := rd_fun h h' (by simp) (by simp)
      cases e
      simp only [szA, Option.isSome_map] at a b
      simp only [dpA, dps_det r r' a b]
    | tup h' _ => exact absurd (rd_fun (.inl h') h (by simp) (by simp)) (by simp)
    | dk h' _ _ => exact absurd (rd_fun h h' (by simp) (by simp)) (by simp)
    | dt h' _ _ => exact absurd (rd_fun h h' (by simp) (by simp)) (by simp)
    | ins _ h' _ _ => exact absurd (rd_fun h (.inl h') (by simp) (by simp)) (by simp)
    | ktup _ _ => simp [szA] at b
    | ptr _ => simp [szA] at b
    | glo _ => simp [szA] at b
  | _, _, _, .dk h n r, hw, a, b => by
    cases hw with
    | lst h' _ r' => exact absurd (rd_fun h h' (by simp) (by simp)) (by simp)
    | tup h' _ => exact absurd (rd_fun (.inl h') h (by simp) (by simp)) (by simp)
    | dk h' _ _ => rfl
    | dt h' _ _ => rfl
    | ins _ h' _ _ => exact absurd (rd_fun h (.inl h') (by simp) (by simp)) (by simp)
    | ktup _ _ => simp [szA] at b
    | ptr _ => simp [szA] at b
    | glo _ => simp [szA] at b
  | _, _, _, .dt h n r, hw, a, b => by
    cases hw with
    | lst h' _ r' => exact absurd (rd_fun h h' (by simp) (by simp)) (by simp)
    | tup h' _ => exact absurd (rd_fun (.inl h') h (by simp) (by simp)) (by simp)
    | dk h' _ _ => rfl
    | dt h' _ _ => rfl
    | ins _ h' _ _ => exact absurd (rd_fun h (.inl h') (by simp) (by simp)) (by simp)
    | ktup _ _ => simp [szA] at b
    | ptr _ => simp [szA] at b
    | glo _ => simp [szA] at b
  | _, _, _, .ins g h n r, hw, a, b => by
    cases hw with
    | lst h' _ r' => exact absurd (rd_fun (.inl h) h' (by simp) (by simp)) (by simp)
    | tup h' _ => rw [h] at h'; cases h'
    | dk h' _ _ => exact absurd (rd_fun (.inl h) h' (by simp) (by simp)) (by simp)
    | dt h' _ _ => exact absurd (rd_fun (.inl h) h' (by simp) (by simp)) (by simp)
    | ins _ h' _ _ => rfl
    | ktup _ _ => simp [szA] at b
    | ptr _ => simp [szA] at b
    | glo _ => simp [szA] at b
theorem dps_det : ∀ {v w : List AV} {x : List V}, VRs c ρz H v x → VRs c ρz H w x → (szAs fs v).isSome = true → (szAs fs w).isSome = true → dpAs k v = dpAs k w
  | _, _, _, .nil, h, _, _ => by cases h; rfl
  | _, _, _, .cons h r, hw, a, b => by
    cases hw with
    | cons h' r' =>
      simp only [szAs] at a b
      split at a
      · rename_i p q e1 e2
        split at b
        · rename_i p' q' e3 e4
          simp only [dpAs, dp_det h h' (by rw [e1]; rfl) (by rw [e3]; rfl), dps_det r r' (by rw [e2]; rfl) (by rw [e4]; rfl)]
        · cases b
      · cases a
end
/-- what stands below: of less depth -/
def Anc (c : MC) (H : Hp) (fs : Eqs) (k d : Nat) (as : List Addr) : Prop := ∀ b ∈ as, ∃ w, VR c ρz H w (.ref b) ∧ (szA fs w).isSome = true ∧ dpA k w ≤ d
theorem Anc.nil {d : Nat} : Anc c H fs k d [] := fun _ h => nomatch h
theorem Anc.mono {d e : Nat} {as : List Addr} (h : Anc c H fs k d as) (l : d ≤ e) : Anc c H fs k e as := fun b hb => let ⟨w, h1, h2, h3⟩ := h b hb; ⟨w, h1, h2, Nat.le_trans h3 l⟩
theorem Anc.app {d : Nat} {as bs : List Addr} (h : Anc c H fs k d as) (h' : Anc c H fs k d bs) : Anc c H fs k d (as ++ bs) := fun b hb => (List.mem_append.mp hb).elim (h b) (h' b)
theorem Anc.out {d : Nat} {as : List Addr} {v : AV} {a : Addr} (h : Anc c H fs k d as) (hv : VR c ρz H v (.ref a)) (ok : (szA fs v).isSome = true) (l : d < dpA k v) : a ∉ as := fun hm => by
  obtain ⟨w, h1, h2, h3⟩ := h a hm
  have := dp_det (k := k) hv h1 ok h2
  omega
theorem Anc.cons {d : Nat} {as : List Addr} {v : AV} {a : Addr} (h : Anc c H fs k d as) (hv : VR c ρz H v (.ref a)) (ok : (szA fs v).isSome = true) (l : d ≤ dpA k v) : Anc c H fs k (dpA k v) (a :: as) := fun b hb => by
  rcases List.mem_cons.mp hb with e | hb
  · subst e; exact ⟨v, hv, ok, Nat.le_refl _⟩
  · exact h.mono l b hb
end
/-- own classes' repr -/
structure RepsOk (X : Cx) (G : String → Option Addr) (k : Nat) (fs : Eqs) : Prop where
  ex : ∀ q ∈ fs, ∃ C f fd ps, G q.1 = some C ∧ FnOk X.prog X.w X.K X.mg X.base CX0 k f fd ps (spM (cx X G) 1 q.2) ∧ Binds X.K fd ps [] ∧ PySem.W.findIn X.K (.ref C) "__repr__" = some (some (.ref f)) ∧ PySem.W.isFn X.K (.ref f) = true
theorem ext_stw {H H' : Hp} (e : Ext H H') : Stw ρz H ρz H' where
  ext := ⟨[], rfl, fun a h => nomatch h⟩
  hid := fun a h => nomatch h
  keep := fun a u _ h => e a u h
  tups := fun a vs h => e a _ h
theorem no_rho {a : Addr} : ¬ ρz.has a := no_has
section
variable {P : Program} {w : World} {h : Heap} {c : MC} {ρ : Rho} {H : Hp}
theorem fl_repr {v : AV} {x : V} {u : Value} {d : PyData} (hv : VR c ρ H v x) (r : RelV x u) (e : flD v = some d) (hs : d.showable = true) (hz : d.shown.length ≤ sizeLine) : ReprK P w [] h 0 u d.shown := by
  cases hv with
  | non => obtain rfl : u = Value.none := r; cases e; simp only [PyData.shown]; exact .of_is ReprIs.none _ _ _
  | bl b => obtain rfl : u = Value.bool b := r; cases e; simp only [PyData.shown]; exact .of_is (ReprIs.bool b) _ _ _
  | int i => obtain ⟨t, rfl⟩ := (show ∃ t, u = Value.int i t from r); cases e; simp only [PyData.shown]; exact .of_is (ReprIs.int t (by simpa [PyData.showable] using hs)) _ _ _
  | str i => obtain ⟨t, rfl⟩ := (show ∃ t, u = Value.str i t from r); cases e; simp only [PyData.shown]; exact .of_is (ReprIs.str i t (by simpa only [PyData.shown] using hz)) _ _ _
  | _ => cases e
theorem key_repr {k : Key} {u : Value} (r : keyIs k u = true) (hs : (keyD k).showable = true) (hz : (keyD k).shown.length ≤ sizeLine) : ReprK P w [] h 0 u (keyD k).shown := by
  rcases keyIs_shape r with ⟨i, t, e3, e4⟩ | ⟨z, t, e3, e4⟩
  · subst e3; subst e4
    simp only [keyD, PyData.shown]; exact .of_is (ReprIs.int t (by simpa [keyD, PyData.showable] using hs)) _ _ _
  · subst e3; subst e4
    simp only [keyD, PyData.shown]; exact .of_is (ReprIs.str z t (by simpa only [keyD, PyData.shown] using hz)) _ _ _
theorem dk_repr : ∀ {kvs : List (Key × AV)} {vs : List (Key × V)} {us : List (Key × Value)} {es : List DictEntry} {ds : List (PyData × PyData)}, VRk c ρ H kvs vs → KV vs us → Pairs (mixKind P w) es us → flDs kvs = some ds →
    PyData.showableAll (ds.map (·.1)) = true → PyData.showableAll (ds.map (·.2)) = true → (∀ t ∈ PyData.shownAll (ds.map (·.1)), t.length ≤ sizeLine) → (∀ t ∈ PyData.shownAll (ds.map (·.2)), t.length ≤ sizeLine) →
    ReprAllK P w [] h 0 (es.map (·.key)) (PyData.shownAll (ds.map (·.1))) ∧ ReprAllK P w [] h 0 (es.map (·.val)) (PyData.shownAll (ds.map (·.2)))
  | _, _, _, _, _, .nil, .nil, .nil, e, _, _, _, _ => by cases e; exact ⟨.nil, .nil⟩
  | _, _, _, _, _, .cons (k := kk) hv r, .cons q1 q2, .cons p1 p2 p3, e, s1, s2, z1, z2 => by
    simp only [flDs] at e
    split at e
    · rename_i d ds e1 e2
      cases e
      simp only [List.map_cons, PyData.showableAll, Bool.and_eq_true] at s1 s2
      simp only [List.map_cons, PyData.shownAll, List.mem_cons] at z1 z2
      obtain ⟨a, b⟩ := dk_repr r q2 p3 e2 s1.2 s2.2 (fun t ht => z1 t (.inr ht)) (fun t ht => z2 t (.inr ht))
      obtain ⟨q3, q4⟩ := q1
      simp only [List.map_cons, PyData.shownAll]
      refine ⟨.cons ?_ a, .cons ?_ b⟩
      · rw [← q3] at p1
        exact key_repr p1 s1.1 (z1 _ (.inl rfl))
      · rw [p2]
        exact fl_repr hv q4 e1 s2.1 (z2 _ (.inl rfl))
    · cases e
theorem rd_ok {a : Addr} {u : HO} (I : HOk P w H h) (r : Rd H a u) : ObjOk P w H h a u := by
  rcases r with r | ⟨o, r⟩
  · exact I _ _ r
  · exact (I _ _ r).2
end
end MM
set_option Elab.async false
set_option linter.all false
set_option maxRecDepth 100000
set_option maxHeartbeats 4000000
/-! repr: the mirror's text is what is shown. -/
namespace MM
open PySem PySem.Spec PyProof.Rows L2
theorem dictText_nil : dictText [] = ("{}" : Str) := by decide +kernel
section
variable {X : Cx} {G : String → Option Addr} {H0 : Hp} {fs : Eqs} {k : Nat}
theorem RepG.dk {a : Addr} {kvs : List (Key × AV)} {vs : List (Key × V)} {ds : List (PyData × PyData)} {ρ : Rho} (hR : Rd H0 a (.dK vs)) (hv : VRk (cx X G) ρ H0 kvs vs) (e : flDs kvs = some ds) (hs : (PyData.dict ds).showable = true) (hz : (PyData.dict ds).shown.length ≤ sizeLine) : RepG X 0 [a] H0 (.ref a) (PyData.dict ds).shown := by
  refine .of_K (d := 1) (fun pins σ H s u I ex ru => ?_) (by omega)
  obtain rfl : u = Value.ref a := ru
  have hR' : Rd H a (.dK vs) := hR.imp (ex _ _) fun ⟨o, q⟩ => ⟨o, ex _ _ q⟩
  obtain ⟨_, hsys, us, kv, o, es, ep, ho, hx, hd, _, hp, _⟩ := rd_ok I.hok hR'
  have hs' : PyData.showableKv ds = true := by simpa [PyData.showable] using hs
  have hz' : (dictText (PyData.shownKv ds)).length ≤ sizeLine := by simpa only [PyData.shown] using hz
  obtain ⟨s1, s2⟩ := PyData.showableKv_split ds hs'
  obtain ⟨k1, k2⟩ := dk_repr (h := s.heap) hv kv hp e s1 s2 (fun t ht => let ⟨p, hp, hl⟩ := PyData.shownKv_key_le ds t ht; Nat.le_trans hl (Nat.le_trans (dictText_mem_le hp) hz')) (fun t ht => let ⟨p, hp, hl⟩ := PyData.shownKv_val_le ds t ht; Nat.le_trans hl (Nat.le_trans (dictText_mem_le hp) hz'))
  simp only [PyData.shown, PyData.shownKv_eq]
  exact ReprK.dict ho hx.1 hd hsys (fun h => nomatch h) (ReprEntriesK.of_two es.toList _ _ k1 k2)
theorem RepG.dt {a : Addr} (hR : Rd H0 a (.dT [])) : RepG X 0 [a] H0 (.ref a) "{}" := by
  refine .of_K (d := 1) (fun pins σ H s u I ex ru => ?_) (by omega)
  obtain rfl : u = Value.ref a := ru
  have hR' : Rd H a (.dT []) := hR.imp (ex _ _) fun ⟨o, q⟩ => ⟨o, ex _ _ q⟩
  obtain ⟨_, hsys, us, kv, o, es, ep, ho, hx, hd, hes, _⟩ := rd_ok I.hok hR'
  cases kv
  have z := ReprK.dict (prog := X.prog) (w := X.w) (as := []) (d := 0) ho hx.1 hd hsys (fun h => nomatch h) (ps := []) (by rw [hes]; exact .nil)
  rw [dictText_nil] at z
  exact z
variable (hk : RepsOk X G k fs)
include hk
mutual
theorem repA : ∀ {v : AV} {x : V}, VR (cx X G) ρz H0 v x → (szA fs v).isSome = true → (shA fs v).length ≤ sizeLine → ∃ as, Anc (cx X G) H0 fs k (dpA k v) as ∧ RepG X (dpA k v) as H0 x (shA fs v)
  | _, _, .non, _, _ => ⟨[], .nil, by simp only [shA]; exact .non⟩
  | _, _, .bl b, _, _ => ⟨[], .nil, by simp only [shA]; exact .bl b⟩
  | _, _, .int i, h, _ => ⟨[], .nil, by
    simp only [szA] at h
    split at h
    · rename_i hi
      simp only [shA]; exact .int hi
    · cases h⟩
  | _, _, .str z, _, hz => ⟨[], .nil, by simp only [shA] at hz ⊢; exact .str hz⟩
  | _, _, .ty b, h, _ => by simp [szA] at h
  | _, _, .ktup _ _, h, _ => by simp [szA] at h
  | _, _, .ptr _, h, _ => by simp [szA] at h
  | _, _, .glo _, h, _ => by simp [szA] at h
  | _, _, .tup (a := a) (xs := xs) h r, hs, hz => by
    have hs0 := hs
    simp only [szA, Option.isSome_map] at hs
    simp only [shA] at hz ⊢
    obtain ⟨as, an, hl, hT⟩ := repAs r hs fun t ht => Nat.le_trans (tupleText_mem_le ht) hz
    have hv : VR (cx X G) ρz H0 (.tup xs) (.ref a) := .tup h r
    refine ⟨a :: as, an.cons hv hs0 (by simp only [dpA]; omega), ?_⟩
    simp only [dpA]
    exact RepG.tuple (.inl (.inl h)) (an.out hv hs0 (by simp only [dpA]; omega)) hl hT
  | _, _, .lst (a := a) (xs := xs) h n r, hs, hz => by
    have hs0 := hs
    simp only [szA, Option.isSome_map] at hs
    simp only [shA] at hz ⊢
    obtain ⟨as, an, hl, hT⟩ := repAs r hs fun t ht => Nat.le_trans (listText_mem_le ht) hz
    have hv : VR (cx X G) ρz H0 (.lst xs) (.ref a) := .lst h n r
    refine ⟨a :: as, an.cons hv hs0 (by simp only [dpA]; omega), ?_⟩
    simp only [dpA]
    exact RepG.list (.inl h) (an.out hv hs0 (by simp only [dpA]; omega)) hl hT
  | _, _, .dk (a := a) (xs := kvs) h n r, hs, hz => by
    have hs0 := hs
    have hv : VR (cx X G) ρz H0 (.dk kvs) (.ref a) := .dk h n r
    simp only [szA] at hs
    simp only [shA] at hz ⊢
    split at hs
    · rename_i ds e
      split at hs
      · rename_i hw
        simp only [e] at hz ⊢
        exact ⟨[a], Anc.nil.cons hv hs0 (Nat.le_refl _), RepG.dk h r e hw hz⟩
      · cases hs
    · cases hs
  | _, _, .dt (a := a) (xs := kvs) h n r, hs, hz => by
    have hs0 := hs
    have hv : VR (cx X G) ρz H0 (.dt kvs) (.ref a) := .dt h n r
    simp only [szA] at hs
    simp only [shA] at hz ⊢
    split at hs
    · rename_i e
      cases r with
      | nil => exact ⟨[a], Anc.nil.cons hv hs0 (Nat.le_refl _), RepG.dt h⟩
      | cons _ _ => simp at e
    · cases hs
  | _, _, .ins (x := C) (a := a) (fs := gs) g h n r, hs, hz => by
    have hv : VR (cx X G) ρz H0 (.ins C gs) (.ref a) := .ins g h n r
    simp only [szA] at hs
    simp only [shA] at hz ⊢
    split at hs
    · rename_i pf e1
      simp only [e1] at hz ⊢
      split at hs
      · rename_i t e2
        simp only [e2] at hz ⊢
        obtain ⟨q, hq, rfl, rfl⟩ := eqAt_mem e1
        obtain ⟨C', f, fd, ps, g', F, hb, h1, h2⟩ := hk.ex q hq
        have g : G q.1 = some _ := g
        rw [g] at g'
        cases g'
        refine ⟨[], .nil, ?_⟩
        simp only [dpA]
        refine RepG.own h F hb h1 h2 (Nat.le_refl _) fun H ex => ⟨rfl, ρz, [], [], [_], rep_nil, .cons (hv.monoW (ext_stw ex)) .nil, ?_⟩
        show Pst _ _ _ _ _ _ _ (q.2 [.ins q.1 gs] [])
        rw [e2]
        intro ρ' H' s r' x hx
        cases hx
        exact ⟨rfl, fun a u e => s.keep a u (fun z => nomatch z) e⟩
      · cases hs
    · cases hs
theorem repAs : ∀ {xs : List AV} {vs : List V}, VRs (cx X G) ρz H0 xs vs → (szAs fs xs).isSome = true → (∀ t ∈ shAs fs xs, t.length ≤ sizeLine) →
    ∃ as, Anc (cx X G) H0 fs k (dpAs k xs) as ∧ (shAs fs xs).length = vs.length ∧ ∀ (i : Nat) (x : V), vs[i]? = some x → ∃ t, (shAs fs xs)[i]? = some t ∧ RepG X (dpAs k xs) as H0 x t
  | _, _, .nil, _, _ => ⟨[], .nil, rfl, fun i x e => by simp at e⟩
  | _, _, .cons (x := x) (xs := xs) h r, hs, hz => by
    simp only [szAs] at hs
    simp only [shAs, List.mem_cons] at hz
    split at hs
    · rename_i p q e1 e2
      obtain ⟨as, a1, r1⟩ := repA h (by rw [e1]; rfl) (hz _ (.inl rfl))
      obtain ⟨bs, a2, hl, r2⟩ := repAs r (by rw [e2]; rfl) fun t ht => hz t (.inr ht)
      refine ⟨as ++ bs, (a1.mono (by simp only [dpAs]; omega)).app (a2.mono (by simp only [dpAs]; omega)), by simp only [shAs, List.length_cons, hl], fun i y e => ?_⟩
      simp only [shAs, dpAs]
      cases i with
      | zero =>
        simp only [List.getElem?_cons_zero, Option.some.injEq] at e
        subst e
        exact ⟨_, rfl, r1.mono (by omega) fun b hb => List.mem_append_left _ hb⟩
      | succ i =>
        obtain ⟨t, h1, h2⟩ := r2 i y (by simpa using e)
        exact ⟨t, by simpa using h1, h2.mono (by omega) fun b hb => List.mem_append_right _ hb⟩
    · cases hs
end
end
end MM
set_option Elab.async false
set_option linter.all false
set_option maxRecDepth 100000
set_option maxHeartbeats 4000000
/-! The mirror's repr of a list of things. -/
namespace MM
open PySem PySem.Spec PyProof.Rows L2
section
variable {X : Cx} {G : String → Option Addr} {H H0 : Hp} {fs : Eqs} {k n : Nat} {as : List Addr} {W : WX}
theorem RepG.top {a : Addr} {v : V} {vs : List V} {ts : List Str} (hS : SqL X.K H a (v :: vs)) (hna : a ∉ as) (hl : ts.length = (v :: vs).length) (hT : ∀ (i : Nat) (x : V), (v :: vs)[i]? = some x → ∃ t, ts[i]? = some t ∧ RepG X n as H x t) (hz : (listText ts).length ≤ sizeLine)
    (hr : Room (n + 2) X.A) (hg : X.A.guards = some []) {pins : List (Addr × Obj)} {σ : L2.St} {s : Shared} (I : Inv X pins σ H s) :
    wpAny (model X.prog X.w) X.A (call (.builtin "repr") [.ref a]) (fun r s' => ∃ tk, r = .str (listText ts) tk ∧ ∃ H', Inv X pins σ H' s' ∧ Ext H H') X.xe s := by
  obtain ⟨its, rv, ⟨o, m, ho, hc, hdn, hd⟩, _⟩ := I.list hS
  cases rv with
  | @cons _ u0 _ us0 r0 r1 =>
    have hun : X.A.units + 10 < cLine := by have := hr.un; omega
    have hr' : Room (n + 1) X.A.in1 := ⟨hr.hd, by have := hr.dp; show X.A.depth + 3 * (n + 1) + 5 < _; omega, by have := hr.un; show X.A.units + 1 + 16 * (n + 1) + 200 < _; omega⟩
    have fin : ∀ s' H' tk, Inv X pins σ H' s' → Ext H H' → callEnd (fun v s' => (∃ x u, v = .str x u) ∧ ∃ tk, v = .str (listText ts) tk ∧ ∃ H', Inv X pins σ H' s' ∧ Ext H H') X.xe (.ok (.ret (.str (listText ts) tk))) s' := fun s' H' tk I' e' => ⟨⟨_, _, rfl⟩, tk, rfl, H', I', e'⟩
    refine call_repr_slot (by omega) ⟨o, ho, hc⟩ F.slot_list_repr.toG (wpAny_mono (Q := fun v s' => (∃ x u, v = .str x u) ∧ ∃ tk, v = .str (listText ts) tk ∧ ∃ H', Inv X pins σ H' s' ∧ Ext H H') (E := X.xe) (wpAny_call (codeAny_call_builtin F.slot_list_repr.plain F.entry_list_repr (F.slot_list_repr.check _ _ _ _ _ _ _ _ ⟨o, ho, hc⟩ (F.args_list_repr_1 _) ?_))) (fun v s' q => ?_) fun _ _ z => z)
    · show wpAny _ _ (Builtin.listReprAt 0 ⟨[.ref a], []⟩) _ _ s
      refine wpAny_list_repr_head (A := X.A.in1.in1) hg (fun v rest kw hm => nomatch hm) ho hd ?_
      refine wpAny_bind (m := newList []) (wpAny_newObj_type ?_)
      refine wpAny_pure ⟨F.quiet_list_repr_loop _, ?_⟩
      have I1 : Inv X pins σ H { s with heap := s.heap.push { cls := .type "list", dict := none, data := .seq #[] } } := I.kept (t' := s.toks) fun b u e => Heap.get?_push_of_some _ e
      have szl : s.heap.objs.size ≤ s.heap.objs.size := Nat.le_refl _
      have I2 : Inv X ((s.heap.objs.size, partsO #[] 0) :: pins) σ H { s with heap := s.heap.push { cls := .type "list", dict := none, data := .seq #[] } } := repin I1 (Heap.get?_push_size _ rfl) I.fresh (fun e => Nat.lt_irrefl _ (Nat.lt_of_lt_of_eq I.lt e)) (I.nofs szl) fun v => by simp
      refine repG_loop (A := X.A.in1) (n := n) (as := as) (H0 := H) (H1 := H) (base := 0) hS hna hl hT rfl hr' hg (fun b _ => Clear.nil b) (by omega) (fun s' H' tk I' e' => fin s' H' tk I' e') (fun e s' h => h) I.sz (fun p hp e => ?_) _ 0 _ H #[] 0 [] rfl (Nat.zero_le _) I2 Ext.rfl' Ext.rfl' rfl (by simp)
      exact Nat.lt_irrefl _ (Nat.lt_of_lt_of_eq (Heap.lt_size (I.pin p hp).1) e.symm)
    · obtain ⟨⟨x, u, rfl⟩, q⟩ := q
      exact ⟨_, _, rfl, q⟩
theorem stp_ext {ρ : Rho} {H H' : Hp} (e : Ext H H') : Stp ρ H ρ H' where
  ext := ⟨[], by simp, fun _ h => by simp at h⟩
  sub := fun _ h => h
  hid := fun _ h => .inl h
  keep := fun a u _ h => e a u h
  tups := fun a vs h => e a _ h
  live := fun a h => by
    cases q : H a with
    | none => exact absurd q h
    | some u => rw [e a u q]; simp
theorem Rep.ext' {c : MC} {ρ : Rho} {fr : Fr} {st : Sto} {σ : L2.St} {H H' : Hp} (r : Rep c ρ fr st σ H) (e : Ext H H') : Rep c ρ fr st σ H' := r.grow (stp_ext e) fun a ha => by
  obtain ⟨_, _, u, _, _, h, _⟩ := r.at ha
  rw [h]; exact e a u h
/-- the relation of repr of a list -/
def rReprA (X : Cx) (n : Nat) : List V → Hp → VK → Prop := fun xs H Q => ∃ a v vs ts as, xs = [V.ref a] ∧ SqL X.K H a (v :: vs) ∧ a ∉ as ∧ ts.length = (v :: vs).length ∧ (∀ (i : Nat) (x : V), (v :: vs)[i]? = some x → ∃ t, ts[i]? = some t ∧ RepG X n as H x t) ∧
  (listText ts).length ≤ sizeLine ∧ ∀ H', Ext H H' → Q (.str (listText ts)) H'
theorem call_reprA (hg : X.A.guards = some []) (hr : Room (n + 2) X.A) : CallR X (.builtin "repr") (rReprA X n) := by
  intro pins s σ H xs us Q I r q
  obtain ⟨a, v, vs, ts, as, rfl, hS, hna, hl, hT, hz, q⟩ := q
  obtain ⟨u, rfl, ru⟩ := vals1 r
  obtain rfl : u = Value.ref a := ru
  refine thn (RepG.top hS hna hl hT hz hr hg I) fun r s' z => ?_
  obtain ⟨tk, rfl, H', I', e⟩ := z
  exact ⟨.str (listText ts), H', I', ⟨tk, rfl⟩, q H' e⟩
def fitA (fs : Eqs) (xs : List AV) : Bool := match szAs fs xs with | some m => decide (m ≤ 16000000) | none => false
def reprA (fs : Eqs) (k n : Nat) : List AV → M AV := fun vs st => match vs with
  | [v] => (match frz st v with
    | some (.lst (x :: xs)) => if fitA fs (x :: xs) = true ∧ dpAs k (x :: xs) ≤ n then .ok (.str (listText (shAs fs (x :: xs)))) st else .stuck
    | _ => .stuck)
  | _ => .stuck
theorem ol_reprA (hk : RepsOk X G k fs) : OpL X G W (rReprA X n) (reprA fs k n) := fun xs σ H Q q => by
  obtain ⟨ρ, fr, st, avs, r, hv, p⟩ := q.unL
  unfold reprA at p
  split at p
  · cases hv with
    | cons h t =>
      cases t
      split at p
      · rename_i x xs hd
        split at p
        · rename_i hq
          obtain ⟨h1, h2⟩ := hq
          have hw : VR (cx X G) ρz H (.lst (x :: xs)) _ := VR.subs (fun a z => absurd z no_rho) (frzT_tells r (fun a z => absurd z no_rho) (fun a z => absurd z no_rho) 6) h hd
          unfold fitA at h1
          cases em : szAs fs (x :: xs) with
          | none => rw [em] at h1; exact absurd h1 (by simp)
          | some m =>
            rw [em] at h1
            simp only [decide_eq_true_eq] at h1
            have hs0 : (szA fs (.lst (x :: xs))).isSome = true := by simp only [szA, em]; rfl
            have lp := szAs_le em
            have ll := piled_lst (shAs fs (x :: xs))
            have hz : (listText (shAs fs (x :: xs))).length ≤ sizeLine := Nat.le_trans ll (Nat.le_trans (Nat.add_le_add_right (Nat.le_trans lp h1) 3) (by decide))
            have hw0 := hw
            cases hw with
            | lst hS _ hr =>
              obtain ⟨as, an, hl, hT⟩ := repAs hk hr (by rw [em]; rfl) fun t ht => Nat.le_trans (listText_mem_le ht) hz
              cases hr with
              | cons q1 q2 =>
                refine ⟨_, _, _, _, as, rfl, .inl hS, an.out hw0 hs0 (by simp only [dpA]; omega), hl, fun i y e => let ⟨t, e1, e2⟩ := hT i y e; ⟨t, e1, e2.mono h2 fun _ hb => hb⟩, hz, fun H' e => p ρ H' (stp_ext e) (r.ext' e) _ (.str _)⟩
        · exact p.elim
      · exact p.elim
  · exact p.elim
end
end MM
set_option Elab.async false
set_option linter.all false
set_option maxRecDepth 100000
set_option maxHeartbeats 4000000
/-! Texts, f-strings, a dict display, str(e) and isinstance of own classes, calls by keywords. -/
namespace MM
open PySem PySem.Spec PyProof.Rows L2
section
variable {X : Cx} {G : String → Option Addr} {W : WX} {a b e : Expr} {ma mb m : Fr → M AV} {pos : Pos}
/-! ### nothing told -/
def mStuck : Fr → M AV := fun _ _ => .stuck
def bStuck : Fr → M Bool := fun _ _ => .stuck
theorem me_stuck {e : Expr} : ME X G W e mStuck := ⟨fun _ _ _ _ _ _ q => by obtain ⟨_, _, _, _, _, _, p⟩ := q; exact p.elim⟩
theorem mt_stuck {e : Expr} : MT X G W e bStuck := ⟨fun _ _ _ _ _ _ q => by obtain ⟨_, _, _, _, _, _, p⟩ := q; exact p.elim⟩
/-! ### texts -/
def catSM : AV → AV → M AV := fun v w st => match v, w with
  | .str i, .str j => if i.length + j.length ≤ 16000000 then .ok (.str (i ++ j)) st else .stuck
  | _, _ => .stuck
theorem o_catS : Op2 X G W (fun x y H Q => ∃ i j, x = .str i ∧ y = .str j ∧ i.length + j.length ≤ sizeLine ∧ Q (.str (i ++ j)) H) catSM := fun x y σ H Q q => by
  obtain ⟨ρ, fr, st, v, w, r, hv, hw, p⟩ := q.un2
  unfold catSM at p
  split at p
  · split at p
    · rename_i hz
      cases hv; cases hw
      exact ⟨_, _, rfl, rfl, Nat.le_trans hz (by decide), p ρ H (Stp.refl _ _) r _ (.str _)⟩
    · exact p.elim
  · exact p.elim
theorem me_catS (ha : ME X G W a ma) (hb : ME X G W b mb) : ME X G W (.BinOp a .Add b pos) (m2 catSM ma mb) := me_op op_add_str o_catS ha hb
def upM : AV → M AV := fun v st => match v with
  | .str a => if a.length ≤ 5000000 then .ok (.str (Txt.upper a)) st else .stuck
  | _ => .stuck
def fmtM : AV → M AV := fun v st => match v with
  | .str y => if y.length ≤ 16000000 then .ok (.str y) st else .stuck
  | .int i => if i.natAbs.log2 < 1920 then .ok (.str (toString i)) st else .stuck
  | _ => .stuck
theorem t1V {f : AV → M AV} {σ : L2.St} {H : Hp} {Q : VK} {R : V → Hp → Prop} (q : tM (cx X G) W (m1 f ma) σ H Q) (h : ∀ x H1 ρ fr st v, Rep (cx X G) ρ fr st σ H1 → VR (cx X G) ρ H1 v x → Pst (cx X G) W ρ fr σ H1 (PV (cx X G) Q) (f v st) → R x H1) : tM (cx X G) W ma σ H R := by
  have q1 := bindV (c := cx X G) (W := W) (σ := σ) (H := H) (P := PV (cx X G) Q) (vs := []) (m := ma) (k := fun avs fr st => match avs with | [v] => f v st | _ => .stuck) (tG.nil q)
  refine tG.imp q1 fun v ρ H1 h1 x hx => ?_
  obtain ⟨ρ, fr, st, avs, r, q, p⟩ := h1 x hx
  cases q with
  | cons h' t =>
    cases t
    exact h x H1 ρ fr st _ r h' p
theorem me_upper {o : Expr} {apos : Pos} (ho : ME X G W o m) (hbase : attributeBase o "upper" X.env (eval o X.env) = eval o X.env := by rfl) (hline : (apos.endLine == pos.line) = true := by rfl) : ME X G W (.Call (.Attribute o "upper" apos) [] [] pos) (m1 upM m) := pe_imp (pe_upper ho hbase hline) fun σ H Q q => by
  refine t1V q fun x H1 ρ fr st v r hv p => ?_
  unfold upM at p
  split at p
  · split at p
    · rename_i hz
      cases hv
      exact ⟨⟨_, rfl⟩, _, rfl, rfl, Nat.le_trans hz (by decide), p ρ H1 (Stp.refl _ _) r _ (.str _)⟩
    · exact p.elim
  · exact p.elim
theorem me_fmt (he : ME X G W e m) : ME X G W (.FormattedValue e (-1) none pos) (m1 fmtM m) := pe_imp (pe_fmt he) fun σ H Q q => by
  refine t1V q fun x H1 ρ fr st v r hv p => ?_
  unfold fmtM at p
  split at p
  · split at p
    · rename_i hz
      cases hv
      exact .inl ⟨_, rfl, Nat.le_trans hz (by decide), p ρ H1 (Stp.refl _ _) r _ (.str _)⟩
    · exact p.elim
  · split at p
    · rename_i hz
      cases hv
      exact .inr ⟨_, rfl, hz, p ρ H1 (Stp.refl _ _) r _ (.str _)⟩
    · exact p.elim
  · exact p.elim
/-- the parts one behind the other -/
def jsS (acc : Str) (k : Str → M AV) : AV → M AV := fun v st => match v with
  | .str y => if (acc ++ y).length ≤ 16000000 then k (acc ++ y) st else .stuck
  | _ => .stuck
def mJs : List (Fr → M AV) → Str → Fr → M AV
  | [], acc, _, st => .ok (.str acc) st
  | m :: ms, acc, fr, st => (m fr st).bind (jsS acc fun z => mJs ms z fr)
inductive MJ (X : Cx) (G : String → Option Addr) (W : WX) : List Expr → List (Fr → M AV) → Prop where
  | nil : MJ X G W [] []
  | cons {e : Expr} {m : Fr → M AV} {es : List Expr} {ms : List (Fr → M AV)} (h : ME X G W e m) (r : MJ X G W es ms) : MJ X G W (e :: es) (m :: ms)
theorem MJ.pj {es : List Expr} {ms : List (Fr → M AV)} (h : MJ X G W es ms) : PJ X es (ms.map (tM (cx X G) W)) := by
  induction h with
  | nil => exact .nil
  | cons h r ih => exact .cons h ih
theorem tJs_of {σ : L2.St} {Q : VK} : ∀ (ms : List (Fr → M AV)) (acc : Str) (H : Hp), tM (cx X G) W (mJs ms acc) σ H Q → tJs (ms.map (tM (cx X G) W)) acc σ H fun out H1 => Q (.str out) H1
  | [], acc, H, q => by
    obtain ⟨ρ, fr, st, avs, r, _, p⟩ := q
    exact p ρ H (Stp.refl _ _) r _ (.str _)
  | m :: ms, acc, H, q => by
    have q1 := bindV (c := cx X G) (W := W) (σ := σ) (H := H) (P := PV (cx X G) Q) (vs := []) (m := m) (k := fun avs fr st => jsS acc (fun z => mJs ms z fr) (avs.headD .non) st) (tG.nil q)
    refine tG.imp q1 fun v ρ H1 h1 x hx => ?_
    obtain ⟨ρ, fr, st, avs, r, q, p⟩ := h1 x hx
    cases q with
    | @cons w _ _ _ h' t =>
      cases t
      have p : Pst (cx X G) W ρ fr σ H1 (PV (cx X G) Q) (jsS acc (fun z => mJs ms z fr) w st) := p
      unfold jsS at p
      split at p
      · split at p
        · rename_i hz
          cases h'
          exact ⟨_, rfl, Nat.le_trans hz (by decide), tJs_of ms _ H1 ⟨ρ, fr, st, [], r, .nil, p⟩⟩
        · exact p.elim
      · exact p.elim
theorem me_joined {v1 v2 : Expr} {rest : List Expr} {ms : List (Fr → M AV)} (h : MJ X G W (v1 :: v2 :: rest) ms) : ME X G W (.JoinedStr (v1 :: v2 :: rest) pos) (mJs ms Str.empty) := pe_imp (pe_joined h.pj) fun σ H Q q => tJs_of ms _ H q
/-! ### {"x": i} -/
def mDk1 (z : Str) (i : Int) : Fr → M AV := fun _ st => .ok (.dk [(.inr z, .int i)]) st
theorem me_dk1 {z : Str} {i : Int} {j j' : Nat} {p1 p2 : Pos} : ME X G W (.Dict [some (.Constant (.str z) j p1)] [.Constant (.int i) j' p2] pos) (mDk1 z i) := pe_imp (pe_disp (pps_cons pe_str pe_int pps_nil) rfl rfl (by simp) (by simp)) fun σ H Q q => by
  obtain ⟨ρ, fr, st, avs, r, _, p⟩ := q
  intro l hl
  refine ⟨upd_same, [(.inr z, .int i)], rfl, by simp, ?_⟩
  rw [upd_upd]
  exact p ρ _ (Stp.tmp hl) (r.tmp hl) _ (.dk (.inl upd_same) (r.notin hl) (.cons (.int _) .nil))
end
end MM
set_option Elab.async false
set_option linter.all false
set_option maxRecDepth 100000
set_option maxHeartbeats 4000000
/-! str(e) and isinstance of own classes, calls by keywords. -/
namespace MM
open PySem PySem.Spec PyProof.Rows L2
section
variable {X : Cx} {G : String → Option Addr} {W : WX} {k : Nat} {fs : Eqs} {cs : List String}
/-! ### str(e) -/
structure StrsOk (X : Cx) (G : String → Option Addr) (k : Nat) (fs : Eqs) : Prop where
  ex : ∀ q ∈ fs, ∃ C f fd ps, G q.1 = some C ∧ FnOk X.prog X.w X.K X.mg X.base CX0 k f fd ps (spM (cx X G) 1 q.2) ∧ Binds X.K fd ps [] ∧ PySem.W.findIn X.K (.ref C) "__str__" = some (some (.ref f)) ∧ PySem.W.isFn X.K (.ref f) = true
def rStrO (X : Cx) (G : String → Option Addr) (k : Nat) (fs : Eqs) : List V → Hp → VK → Prop := fun xs H Q => ∃ a C dx gs q, xs = [V.ref a] ∧ H a = some (.ins C dx gs) ∧ q ∈ fs ∧ G q.1 = some C ∧ spM (cx X G) 1 q.2 [.ref a] H (fun v H' => (∃ t, v = .str t) ∧ Q v H') fun _ _ _ => False
theorem call_strO (h : StrsOk X G k fs) (hr : Room (k + 2) X.A) : CallR X (.type "str") (rStrO X G k fs) := by
  intro pins s σ H xs us Q I r q
  obtain ⟨a, C, dx, gs, q0, rfl, hH, hq, hC, q⟩ := q
  obtain ⟨u, rfl, ru⟩ := vals1 r
  obtain rfl : u = Value.ref a := ru
  obtain ⟨C', f, fd, ps, g', F, hb, h1, h2⟩ := h.ex q0 hq
  rw [hC] at g'
  cases g'
  obtain ⟨mA, J, _⟩ := ins_get I.hok hH
  obtain ⟨od, J, _⟩ := J.look
  have hu : X.A.in1.in1.units < cLine := by have := hr.un; show X.A.units + 1 + 1 < cLine; omega
  have hr' : Room k X.A.in1.in1 := ⟨hr.hd, by have := hr.dp; show X.A.depth + 3 * k + 5 < _; omega, by have := hr.un; show X.A.units + 1 + 1 + 16 * k + 200 < _; omega⟩
  refine PySem.W.kso_call hu I.kIn J h1 h2 (thn (run_fnA (A := X.A.in1.in1) (ds := []) (dvs := []) (E := fun _ _ _ _ => False) rfl F hr' hb .nil (fun _ _ _ _ _ _ h => h.elim) I (us := [.ref a]) (vs := [V.ref a]) (.cons (show RelV (V.ref a) (.ref a) from rfl) .nil) q) fun r s' z => ?_)
  obtain ⟨v, H', I', rv, ⟨t, rfl⟩, qq⟩ := z
  obtain ⟨tk, rfl⟩ := (show ∃ tk, r = Value.str t tk from rv)
  exact ⟨.str t, H', I', ⟨tk, rfl⟩, qq⟩
def strOM (fs : Eqs) : List AV → M AV := fun vs st => match vs with
  | [.ins C gs] => (match eqAt fs C with
    | some pf => (match pf [.ins C gs] st with
      | .ok (.str t) st1 => .ok (.str t) st1
      | _ => .stuck)
    | none => .stuck)
  | _ => .stuck
theorem ol_strO : OpL X G W (rStrO X G k fs) (strOM fs) := fun xs σ H Q q => by
  obtain ⟨ρ, fr, st, avs, r, hv, p⟩ := q.unL
  unfold strOM at p
  split at p
  · rename_i C gs
    split at p
    · rename_i pf e1
      cases hv with
      | cons h t =>
        cases t
        have h0 := h
        cases h with
        | ins g hH hn hr =>
          obtain ⟨q0, hq, rfl, rfl⟩ := eqAt_mem e1
          refine ⟨_, _, _, _, q0, rfl, hH, hq, g, rfl, ρ, [], st, [_], r.reframe rfl fun i v e => by simp at e, .cons h0 .nil, ?_⟩
          show Pst _ _ _ _ _ _ _ (q0.2 [.ins q0.1 gs] st)
          split at p
          · rename_i t st1 e2
            rw [e2]
            intro ρ' H' s r' x hx
            cases hx
            exact ⟨⟨t, rfl⟩, p ρ' H' s (r.back s r') _ (.str _)⟩
          · exact p.elim
    · exact p.elim
  · exact p.elim
/-! ### isinstance -/
def baseTys : List String := ["NoneType", "bool", "int", "str", "tuple", "list", "dict"]
def askTys : List String := ["int", "bool", "str", "tuple", "list", "dict"]
structure InsOk (X : Cx) (G : String → Option Addr) (cs : List String) : Prop where
  ex : ∀ x ∈ cs, ∃ C, G x = some C ∧ C8.InsC X.K C ∧ (∀ y ∈ cs, ∃ D, G y = some D ∧ PySem.W.kitOne X.K (.ref C) (.ref D) = some (decide (x = y))) ∧ (∀ T ∈ baseTys, PySem.W.kitOne X.K (.type T) (.ref C) = some false) ∧ (∀ T ∈ askTys, PySem.W.kitOne X.K (.ref C) (.type T) = some false)
/-- the types of things by name, a class by its name -/
inductive TyN where
  | ty (T : String)
  | own (x : String)
def tyN (st : Sto) : AV → Option TyN
  | .ins x _ => some (.own x)
  | .dt _ => some (.ty "dict")
  | v => (tyName st v).map .ty
def rIsiA (X : Cx) : List V → Hp → VK → Prop := fun xs H Q => rIsi X.K xs H Q ∨ ∃ a kvs c u b, xs = [.ref a, c] ∧ ClsV c u ∧ Rd H a (.dT kvs) ∧ PySem.W.kitOne X.K (.type "dict") u = some b ∧ Q (.bl b) H
theorem call_isiA : CallR X (.builtin "isinstance") (rIsiA X) := by
  intro pins s σ H xs us Q I r h
  rcases h with h | ⟨a, kvs, c, u, b, rfl, k, hd, e, q⟩
  · exact call_isi pins s σ H xs us Q I r h
  · obtain ⟨u1, u2, rfl, r1, r2⟩ := vals2 r
    have e2 := k.eq r2
    subst e2
    cases (show u1 = Value.ref a from r1)
    obtain ⟨_, _, xs, _, o, es, ep, h1, h2, _⟩ := rd_ok I.hok hd
    exact PySem.W.kia_one PySem.W.kitx_dict I.kIn ⟨o, h1, h2.1⟩ e (fun z => nomatch z) fun tk => ⟨.bl b, H, I.tok tk, rfl, q⟩
/-- the answer -/
def isiB (cs : List String) : TyN → AV → Option Bool
  | .ty t, .ty u => kitB t u
  | .ty t, .glo y => if t ∈ baseTys ∧ y ∈ cs then some false else none
  | .own x, .ty u => if x ∈ cs ∧ u ∈ askTys then some false else none
  | .own x, .glo y => if x ∈ cs ∧ y ∈ cs then some (decide (x = y)) else none
  | _, _ => none
def isiA (cs : List String) : List AV → M AV := fun vs st => match vs with
  | [v, c] => (match tyN st v with
    | some t => (match isiB cs t c with
      | some b => .ok (.bl b) st
      | none => .stuck)
    | none => .stuck)
  | _ => .stuck
theorem cls_of {ρ : Rho} {H : Hp} {t : TyN} {c : AV} {y : V} {b : Bool} (hi : InsOk X G cs) (hc : VR (cx X G) ρ H c y) (e : isiB cs t c = some b) : ∃ u, ClsV y u ∧ ∀ tv : Value, (∀ T, t = .ty T → tv = .type T) → (∀ x C, t = .own x → G x = some C → tv = .ref C) → PySem.W.kitOne X.K tv u = some b := by
  cases t with
  | ty T =>
    cases hc with
    | ty u => exact ⟨_, .ty u, fun tv h1 _ => by rw [h1 T rfl]; exact kit_ty e⟩
    | glo g =>
      simp only [isiB] at e
      split at e
      · rename_i h
        cases e
        obtain ⟨C, g', _, _, h3, _⟩ := hi.ex _ h.2
        have g : G _ = some _ := g
        rw [g] at g'
        cases g'
        exact ⟨_, .own _, fun tv h1 _ => by rw [h1 T rfl]; exact h3 T h.1⟩
      · cases e
    | _ => simp [isiB] at e
  | own x =>
    cases hc with
    | ty u =>
      simp only [isiB] at e
      split at e
      · rename_i h
        cases e
        obtain ⟨C, g', _, _, _, h3⟩ := hi.ex _ h.1
        exact ⟨_, .ty u, fun tv _ h2 => by rw [h2 x C rfl g']; exact h3 u h.2⟩
      · cases e
    | glo g =>
      simp only [isiB] at e
      split at e
      · rename_i h
        cases e
        obtain ⟨C, g', _, h3, _⟩ := hi.ex _ h.1
        obtain ⟨D, g2, h4⟩ := h3 _ h.2
        have g : G _ = some _ := g
        rw [g] at g2
        cases g2
        exact ⟨_, .own _, fun tv _ h2 => by rw [h2 x C rfl g']; exact h4⟩
      · cases e
    | _ => simp [isiB] at e
theorem ol_isiA (hi : InsOk X G cs) : OpL X G W (rIsiA X) (isiA cs) := fun xs σ H Q q => by
  obtain ⟨ρ, fr, st, avs, r, hv, p⟩ := q.unL
  unfold isiA at p
  split at p
  · rename_i v c
    cases hv with
    | cons h t =>
      cases t with
      | cons h' t =>
        cases t
        split at p
        · rename_i t ht
          split at p
          · rename_i b hb
            obtain ⟨u, k, hk⟩ := cls_of hi h' hb
            have qb := p ρ H (Stp.refl _ _) r _ (.bl b)
            have gen : ∀ T, tyName st v = some T → t = .ty T → rIsiA X _ H Q := fun T e1 e2 => .inl ⟨_, _, _, _, b, rfl, k, tyName_ok r h e1, hk _ (fun T' e => by rw [e2] at e; cases e; rfl) (fun x C e => by rw [e2] at e; cases e), qb⟩
            cases v with
            | ins x gs =>
              cases ht
              cases h with
              | ins g hH hn hr =>
                have hx : x ∈ cs := by
                  cases c <;> simp only [isiB] at hb <;> first | (split at hb <;> first | (rename_i h; exact h.1) | cases hb) | cases hb
                obtain ⟨C, g', ic, _⟩ := hi.ex x hx
                have g : G _ = some _ := g
                rw [g] at g'
                cases g'
                exact .inl ⟨_, _, _, _, b, rfl, k, .base (.ins hH ic.cl ic.ha ic.hn ic.htk ic.hm), hk _ (fun T e => by cases e) (fun x C e g2 => by cases e; rw [g] at g2; cases g2; rfl), qb⟩
            | dt kvs =>
              cases ht
              cases h with
              | dt hR hn hr => exact .inr ⟨_, _, _, u, b, rfl, k, hR, hk _ (fun T e => by cases e; rfl) (fun x C e => by cases e), qb⟩
            | _ =>
              simp only [tyN] at ht
              obtain ⟨T, e1, e2⟩ := Option.map_eq_some_iff.mp ht
              exact gen T e1 e2.symm
          · exact p.elim
        · exact p.elim
  · exact p.elim
end
end MM
set_option Elab.async false
set_option linter.all false
set_option maxRecDepth 100000
set_option maxHeartbeats 4000000
/-! A call by two keywords, in the other turn. -/
namespace MM
open PySem PySem.Spec PyProof.Rows L2
def sw {α : Type} : List α → List α
  | [a, b] => [b, a]
  | l => l
theorem sw_len {α : Type} : ∀ l : List α, (sw l).length = l.length
  | [] => rfl
  | [_] => rfl
  | [_, _] => rfl
  | _ :: _ :: _ :: _ => rfl
theorem Vals.sw : ∀ {vs : List V} {us : List Value}, Vals vs us → Vals (MM.sw vs) (MM.sw us)
  | _, _, .nil => .nil
  | _, _, .cons a .nil => .cons a .nil
  | _, _, .cons a (.cons b .nil) => .cons b (.cons a .nil)
  | _, _, .cons a (.cons b (.cons c r)) => .cons a (.cons b (.cons c r))
theorem VRs.sw {c : MC} {ρ : Rho} {H : Hp} : ∀ {xs : List AV} {vs : List V}, VRs c ρ H xs vs → VRs c ρ H (MM.sw xs) (MM.sw vs)
  | _, _, .nil => .nil
  | _, _, .cons a .nil => .cons a .nil
  | _, _, .cons a (.cons b .nil) => .cons b (.cons a .nil)
  | _, _, .cons a (.cons b (.cons c r)) => .cons a (.cons b (.cons c r))
section
variable {K : PySem.W.Frag} {x qual : Str} {params : Arguments} {body : List Stmt} {scope : Scope} {f : Addr} {fd : FuncData} {ps ks : List Str}
theorem FunD.kbsw (F : FunD K x qual params body scope [] [] f fd) (hk : ks.length = 2)
    (h : ∀ (kV doc pm : Value) (an : Option Addr) (cdv ct : Value) (w1 w2 : Value), bindArgs (PySem.W.fnOf x qual params body scope .none kV doc pm an cdv ct) ⟨[], ks.zip [w1, w2]⟩ = pure (ps.zip [w2, w1])) : KBn K fd ps 0 ks (fun _ ws => sw ws) (fun _ zs => sw zs) := by
  obtain ⟨oc, od, dV, kV, doc, pm, an, cdv, ct, osl, rfl, lk, hcd, hD, hK⟩ := F.ex
  rcases hD with ⟨_, rfl⟩ | ⟨e, _⟩
  · refine ⟨fun s us ws _ l1 l2 => ?_, fun _ r => Vals.sw r⟩
    obtain rfl : us = [] := List.eq_nil_of_length_eq_zero l1
    match ws, l2.trans hk with
    | [w1, w2], _ => exact .of_eq (h kV doc pm an cdv ct w1 w2)
  · exact absurd rfl e
end
section
variable {X : Cx} {G : String → Option Addr} {W : WX} {CX : CXT} {k n : Nat} {f : Addr} {fd : FuncData} {ps ks : List Str} {pf : List AV → M AV} {x : Str} {p pos : Pos} {kws : List Keyword} {mk : Fr → M (List AV)} {nm : Option Str} {kpos : Pos} {e : Expr} {m : Fr → M AV} {sp : Sp} {tk : TA} {E : L2.St → XK} {g : List Value → List Value → List Value} {gV : List V → List V → List V}
abbrev MK (X : Cx) (G : String → Option Addr) (W : WX) (kws : List Keyword) (m : Fr → M (List AV)) : Prop := PK X kws (tMa (cx X G) W m)
theorem pk_imp {t t' : TA} (h : PK X kws t) (i : ∀ σ H Q, t' σ H Q → t σ H Q) : PK X kws t' := ⟨fun pos pins s σ H Q I q => h.run pos pins s σ H Q I (i σ H Q q)⟩
theorem mk_nil : MK X G W [] mNil := pk_imp pk_nil fun σ H Q q => by
  obtain ⟨ρ, fr, st, avs, r, _, p⟩ := q
  exact p ρ H (Stp.refl _ _) r [] .nil
theorem mk_cons (h : ME X G W e m) (hr : MK X G W kws mk) : MK X G W (⟨nm, e, kpos⟩ :: kws) (mCons m mk) := pk_imp (pk_cons h hr) fun σ H Q q => by
  have q1 := bindV (c := cx X G) (W := W) (vs := []) (m := m) (k := fun avs fr st => (mk fr st).bind fun vs st2 => .ok (avs ++ vs) st2) (tG.nil q)
  refine tG.imp q1 fun v ρ H1 h1 x hx => ?_
  refine tG.imp (bindL (c := cx X G) (W := W) (m := mk) (k := fun avs fr st => .ok avs st) (h1 x hx)) fun vs ρ2 H2 h2 xs hxs => ?_
  obtain ⟨ρ3, fr3, st3, avs3, r3, q3, p3⟩ := h2 xs hxs
  exact p3 ρ3 H2 (Stp.refl _ _) r3 _ q3
def tCallK0 (m : Nat) (sp : Sp) (gV : List V → List V → List V) (E : L2.St → XK) (tk : TA) : TE := fun σ H Q => tk σ H fun zs H1 => zs.length = m ∧ sp (gV [] zs) H1 Q (E σ)
theorem pe_callK0 (F : FnOk X.prog X.w X.K X.mg X.base CX k f fd ps sp) (hr : Room k X.A) (hg : Gl X x) (hm : X.mg x = some (.ref f)) (hk : PySem.W.keepIn X.K (.ref f) = true) (hb : KBn X.K fd ps 0 ks g gV) (hx : ∀ σ, PassesAt CX X σ (E σ)) (hkw : PK X kws tk)
    (hall : (backToKw pos (keywordEach kws X.env)).all (·.1.isSome) = true := by rfl) (hks : (backToKw pos (keywordEach kws X.env)).filterMap (·.1) = ks := by rfl) (hdb : (x == ("__debug__" : Str)) = false := by decide)
    (hpl : ((backTo pos (starEach [] X.env)).any (·.1) || (backToKw pos (keywordEach kws X.env)).any (·.1.isNone)) = false := by rfl) :
    PE X (.Call (.Name x p) [] kws pos) (tCallK0 ks.length sp gV E tk) := by
  refine ⟨fun pins s σ H Q I h => ?_⟩
  refine wpAny_Call_Name_kw (ld_glob I hg hm ?_ hdb)
  refine PySem.W.callWith_KW0 (h₀ := X.base) I.ok.mod.kin hk hall ?_ hpl
  refine thn (hkw.run pos pins s σ H _ I h) fun ws s2 ⟨zs, H2, I2, rz, l2, q2⟩ => ⟨I2.kIn, ?_⟩
  rw [hks]
  have r2 := hb.rel .nil rz
  refine wpAny_call (codeAny_mono (F.run X.A X.stack s2 H2 ⟨[], ks.zip ws⟩ (g [] ws) (gV [] zs) Q (E σ) hr I2.env0 (hb.to s2 [] ws I2.kIn rfl (rz.length.symm.trans l2)) r2 q2) fun r s' hq => ?_)
  cases r with
  | error e => exact hx σ pins H2 s2 e s' I2 hq
  | ok fl =>
    cases fl with
    | ret u => exact I2.after hq
    | next => exact False.elim hq
    | brk => exact False.elim hq
    | cont => exact False.elim hq
def mSw (m : Fr → M (List AV)) : Fr → M (List AV) := fun fr st => (m fr st).bind fun l st1 => .ok (sw l) st1
theorem me_callSw (F : FnOk X.prog X.w X.K X.mg X.base CX k f fd ps (spM (cx X G) 2 pf)) (hr : Room k X.A) (hg : Gl X x) (hm : X.mg x = some (.ref f)) (hk : PySem.W.keepIn X.K (.ref f) = true) (hb : KBn X.K fd ps 0 ks (fun _ ws => sw ws) (fun _ zs => sw zs)) (h2 : ks.length = 2) (hx : ∀ σ, PassesAt CX X σ (WE W σ)) (hkw : MK X G W kws mk)
    (hall : (backToKw pos (keywordEach kws X.env)).all (·.1.isSome) = true := by rfl) (hks : (backToKw pos (keywordEach kws X.env)).filterMap (·.1) = ks := by rfl) (hdb : (x == ("__debug__" : Str)) = false := by decide)
    (hpl : ((backTo pos (starEach [] X.env)).any (·.1) || (backToKw pos (keywordEach kws X.env)).any (·.1.isNone)) = false := by rfl) :
    ME X G W (.Call (.Name x p) [] kws pos) (mCallF 2 pf [] (mSw mk)) := pe_imp (pe_callK0 (E := fun σ => WE W σ) F hr hg hm hk hb hx hkw hall hks hdb hpl) fun σ H Q q => by
  have q1 := tCallM (c := cx X G) (W := W) (dvs := []) (fun _ _ => .nil) q
  have q2 := bindL (c := cx X G) (W := W) (σ := σ) (H := H) (vs := []) (m := mk) (k := fun avs fr st => .ok (sw avs) st) (tG.nil q1)
  refine tG.imp q2 fun v ρ H1 h1 x hx => ?_
  obtain ⟨ρ, fr, st, avs, r, q, p⟩ := h1 x hx
  have z := p ρ H1 (Stp.refl _ _) r _ (VRs.sw q)
  have z : spM (cx X G) 2 pf (sw x ++ []) H1 Q (WE W σ) := z
  rw [List.append_nil] at z
  refine ⟨?_, z⟩
  have := z.1
  rw [sw_len] at this
  rw [h2]; exact this
end
end MM
set_option Elab.async false
set_option linter.all false
set_option maxRecDepth 100000
set_option maxHeartbeats 4000000
/-! A word beside a table, known to be out of it, too. -/
namespace MM
open PySem PySem.Spec PyProof.Rows L2
def notTabO (x : String) (kvs : List (Str × AV)) (outs : List Str) : AV → AV → M AV := fun v o st => match v, o with
  | .str z, .glo y => if y = x then (match tabAt kvs z with
    | some _ => .ok (.bl false) st
    | none => if z ∈ outs then .ok (.bl true) st else .stuck) else .stuck
  | _, _ => .stuck
section
variable {X : Cx} {G : String → Option Addr} {W : WX} {x : String} {d : Addr} {kvs : List (Str × AV)} {outs : List Str} {a b : Expr} {ma mb : Fr → M AV} {pos : Pos}
theorem o_notTabO (T : TabOk X G x d kvs) (ho : ∀ z ∈ outs, PySem.W.nsIn X.K d z = some none) : Op2 X G W (fun x y H Q => ∃ (z : Str) (r : Option Value), x = .str z ∧ y = .ref d ∧ PySem.W.nsIn X.K d z = some r ∧ Q (.bl (!r.isSome)) H) (notTabO x kvs outs) := fun y1 y2 σ H Q q => by
  obtain ⟨ρ, fr, st, v, w, r, hv, hw, p⟩ := q.un2
  unfold notTabO at p
  cases hv with
  | str z =>
    cases hw with
    | @glo y a' hy =>
      simp only at p
      by_cases e : y = x
      · subst e
        rw [if_pos rfl] at p
        cases et : tabAt kvs z with
        | none =>
          rw [et] at p
          simp only at p
          by_cases hz : z ∈ outs
          · rw [if_pos hz] at p
            have e0 : some _ = some _ := hy.symm.trans T.at_
            cases e0
            exact ⟨z, none, rfl, rfl, ho z hz, p ρ H (Stp.refl _ _) r _ (.bl _)⟩
          · rw [if_neg hz] at p; exact p.elim
        | some w =>
          rw [et] at p
          obtain ⟨u, v, e1, _, _⟩ := T.find et
          have e0 : some _ = some _ := hy.symm.trans T.at_
          cases e0
          exact ⟨z, some u, rfl, rfl, e1, p ρ H (Stp.refl _ _) r _ (.bl _)⟩
      · rw [if_neg e] at p; exact p.elim
    | _ => exact p.elim
  | _ => exact p.elim
theorem me_notTabO (T : TabOk X G x d kvs) (ho : ∀ z ∈ outs, PySem.W.nsIn X.K d z = some none) (ha : ME X G W a ma) (hb : ME X G W b mb) (hm : behindInMarks .NotIn b = false) : ME X G W (.Compare a [.NotIn] [b] pos) (m2 (notTabO x kvs outs) ma mb) := by
  obtain ⟨es, n, D⟩ := T.dict
  exact me_cmp (op_notIn_kd D) (o_notTabO T ho) ha hb hm
theorem mt_notTabO (T : TabOk X G x d kvs) (ho : ∀ z ∈ outs, PySem.W.nsIn X.K d z = some none) (ha : ME X G W a ma) (hb : ME X G W b mb) (hm : behindInMarks .NotIn b = false) : MT X G W (.Compare a [.NotIn] [b] pos) (mB (m2 (notTabO x kvs outs) ma mb)) := by
  obtain ⟨es, n, D⟩ := T.dict
  exact mt_cmp (op_notIn_kd D) (o_notTabO T ho) ha hb hm
end
end MM
set_option Elab.async false
set_option linter.all false
set_option maxRecDepth 100000
set_option maxHeartbeats 0
/-! Printed: the mirrors of the defs, and that each def answers as its mirror. -/
namespace MM
open PySem PySem.Spec PyProof.Rows L2
def topS (i : Nat) : Stmt := PySem.Challenge.pw_clauseshrink_k72_claims_that_are_none.main.body.getD i (.Pass ⟨0, 0, 0, 0⟩)
abbrev Gm (K : PySem.W.Frag) : String → Option Addr := fun x => some (He.ga K (Str.ofString x))
theorem pz {X : Cx} {E : L2.St → XK} : ∀ σ, PassesAt CX0 X σ (E σ) := fun _ _ _ _ _ _ _ h => h.elim
theorem roomU {k : Nat} {A : Around} (h : Room k A) : A.units + 65 < cLine := by have := h.un; omega
theorem roomU64 {k : Nat} {A : Around} (h : Room k A) : A.units + 64 < cLine := by have := h.un; omega
theorem roomU1 {k : Nat} {A : Around} (h : Room k A) : A.units + 1 < cLine := by have := h.un; omega
theorem bt_abs : bootBuiltins "abs" = some (.builtin "abs") := by decide +kernel
theorem bt_all : bootBuiltins "all" = some (.builtin "all") := by decide +kernel
theorem bt_any : bootBuiltins "any" = some (.builtin "any") := by decide +kernel
theorem bt_bool : bootBuiltins "bool" = some (.type "bool") := by decide +kernel
theorem bt_dict : bootBuiltins "dict" = some (.type "dict") := by decide +kernel
theorem bt_int : bootBuiltins "int" = some (.type "int") := by decide +kernel
theorem bt_isinstance : bootBuiltins "isinstance" = some (.builtin "isinstance") := by decide +kernel
theorem bt_len : bootBuiltins "len" = some (.builtin "len") := by decide +kernel
theorem bt_list : bootBuiltins "list" = some (.type "list") := by decide +kernel
theorem bt_max : bootBuiltins "max" = some (.builtin "max") := by decide +kernel
theorem bt_min : bootBuiltins "min" = some (.builtin "min") := by decide +kernel
theorem bt_repr : bootBuiltins "repr" = some (.builtin "repr") := by decide +kernel
theorem bt_sorted : bootBuiltins "sorted" = some (.builtin "sorted") := by decide +kernel
theorem bt_str : bootBuiltins "str" = some (.type "str") := by decide +kernel
theorem bt_tuple : bootBuiltins "tuple" = some (.type "tuple") := by decide +kernel
def kt_OF_CLAUSE : AV := .ktup [.str (Str.ofString "add"), .str (Str.ofString "keep"), .str (Str.ofString "forget"), .str (Str.ofString "drop"), .str (Str.ofString "put")]
def kt_ADDED : AV := .ktup [.str (Str.ofString "add")]
def kt_WORDS : AV := .ktup [.str (Str.ofString "add"), .str (Str.ofString "keep"), .str (Str.ofString "forget"), .str (Str.ofString "drop"), .str (Str.ofString "leave"), .str (Str.ofString "back")]
def tab_JUDGES : List (Str × AV) := [(Str.ofString "yes", .ktup [.int 3, .glo "yes_holds"]), (Str.ofString "no", .ktup [.int 3, .glo "no_holds"]), (Str.ofString "small", .ktup [.int 5, .glo "small_holds"]), (Str.ofString "never", .ktup [.int 4, .glo "never_holds"]), (Str.ofString "alike", .ktup [.int 4, .glo "alike_holds"]), (Str.ofString "core", .ktup [.int 4, .glo "core_holds"])]
def outsL : List Str := [Str.ofString "", Str.ofString "add", Str.ofString "yess", Str.ofString "nos", Str.ofString "smalls", Str.ofString "nevers", Str.ofString "alikes", Str.ofString "cores", Str.ofString "YES", Str.ofString "NO", Str.ofString "SMALL", Str.ofString "NEVER", Str.ofString "ALIKE", Str.ofString "CORE"]
def csL : List String := ["Book", "Standing", "Work"]
/-! _law_good -/
abbrev s_law_good : Stmt := topS 78
def N_law_good : List Str := ["_law_two", "_law_none", "_law_steps_here", "_law_found"]
theorem sc_law_good : FnScope N_law_good [] (defScope s_law_good) := ⟨rfl, rfl, rfl, by decide +kernel, rfl, by decide +kernel, by decide +kernel⟩
def b_law_good : Fr → Sto → RS := (sSeq (sAsgG (gSet (.tp [0, 1])) (mL tupM (mCons (mL tupM (mCons (mL tupM (mCons (mC (.int 1)) (mCons (mC (.int 2)) mNil))) (mCons (mL tupM (mCons (m1 negM (mC (.int 1))) (mCons (mC (.int 2)) mNil))) mNil))) (mCons (mL tupM (mCons (mL tupM (mCons (mC (.int 1)) mNil)) (mCons (mL tupM (mCons (m1 negM (mC (.int 1))) mNil)) mNil))) mNil))))
  (sSeq (sAsg (.nm 2) (mL tupM (mCons (mL tupM (mCons (mC (.str (Str.ofString "add"))) (mCons (mL tupM (mCons (mC (.int 2)) mNil)) mNil))) (mCons (mL tupM (mCons (mC (.str (Str.ofString "keep"))) (mCons (mL tupM (mCons (mC (.int 2)) mNil)) mNil))) (mCons (mL tupM (mCons (mC (.str (Str.ofString "drop"))) (mCons (mL tupM (mCons (mC (.int 1)) (mCons (mC (.int 2)) mNil))) mNil))) (mCons (mL tupM (mCons (mC (.str (Str.ofString "drop"))) (mCons (mL tupM (mCons (m1 negM (mC (.int 1))) (mCons (mC (.int 2)) mNil))) mNil))) (mCons (mL tupM (mCons (mC (.str (Str.ofString "leave"))) (mCons (mL tupM (mCons (mC (.int 2)) mNil)) (mCons (mC (.int 2)) mNil)))) mNil)))))))
  (sSeq (sAsg (.nm 3) (mL lstM (mCons (mL lstM (mCons (mL tupM (mCons (mC (.str (Str.ofString "yes"))) (mCons (mC (.int 2)) (mCons (mVar 0) mNil)))) (mCons (mL tupM (mCons (m1 negM (mC (.int 1))) (mCons (mC (.int 2)) mNil))) mNil))) (mCons (mL lstM (mCons (mL tupM (mCons (mC (.str (Str.ofString "no"))) (mCons (mC (.int 1)) (mCons (mVar 1) mNil)))) (mCons (mL tupM (mCons (mL tupM (mCons (mC (.str (Str.ofString "add"))) (mCons (mL tupM mNil) mNil))) mNil)) mNil))) (mCons (mL lstM (mCons (mL tupM (mCons (mC (.str (Str.ofString "yes"))) (mCons (mC (.int 0)) (mCons (mL tupM mNil) mNil)))) (mCons (mL tupM mNil) mNil))) mNil)))))
  (sSeq (sAsg (.nm 3) (m2 catN (mVar 3) (mL lstM (mCons (mL lstM (mCons (mL tupM (mCons (mC (.str (Str.ofString "small"))) (mCons (mC (.int 2)) (mCons (mVar 0) (mCons (mL tupM mNil) (mCons (mL tupM (mCons (mL tupM (mCons (mC (.int 2)) (mCons (mL tupM (mCons (mC (.int 2)) mNil)) mNil))) mNil)) mNil)))))) (mCons (mVar 2) mNil))) (mCons (mL lstM (mCons (mL tupM (mCons (mC (.str (Str.ofString "never"))) (mCons (mC (.int 2)) (mCons (mVar 0) (mCons (mL tupM (mCons (m1 negM (mC (.int 2))) mNil)) mNil))))) (mCons (mL tupM (mCons (mL tupM (mCons (mC (.str (Str.ofString "add"))) (mCons (mL tupM (mCons (mC (.int 2)) mNil)) mNil))) mNil)) mNil))) mNil)))))
  (sSeq (sExp (mAppend (mVar 3) (mL lstM (mCons (mL tupM (mCons (mC (.str (Str.ofString "alike"))) (mCons (mC (.int 2)) (mCons (mVar 0) (mCons (mL tupM (mCons (mL tupM (mCons (mC (.int 2)) mNil)) mNil)) mNil))))) (mCons (mL tupM (mCons (mL tupM (mCons (mL tupM (mCons (mC (.str (Str.ofString "add"))) (mCons (mL tupM (mCons (mC (.int 2)) mNil)) mNil))) mNil)) (mCons (mL tupM (mCons (mL tupM (mCons (mC (.str (Str.ofString "add"))) (mCons (mL tupM (mCons (mC (.int 1)) (mCons (mC (.int 2)) mNil))) mNil))) (mCons (mL tupM (mCons (mC (.str (Str.ofString "add"))) (mCons (mL tupM (mCons (m1 negM (mC (.int 1))) (mCons (mC (.int 2)) mNil))) mNil))) mNil))) mNil))) mNil)))))
  (sRet (m2 catM (mVar 3) (mL lstM (mCons (mL lstM (mCons (mL tupM (mCons (mC (.str (Str.ofString "core"))) (mCons (mC (.int 1)) (mCons (mVar 1) (mCons (mL tupM (mCons (mC (.int 0)) (mCons (mC (.int 1)) mNil))) mNil))))) (mCons (mL tupM (mCons (mL tupM (mCons (mL tupM (mCons (mC (.str (Str.ofString "add"))) (mCons (mL tupM mNil) mNil))) mNil)) (mCons (mL tupM (mCons (mL tupM (mCons (m1 negM (mC (.int 1))) mNil)) (mCons (mL tupM (mCons (mC (.int 1)) mNil)) mNil))) mNil))) mNil))) mNil)))))))))
def p_law_good : List AV → M AV := pureM (runZ N_law_good.length b_law_good)
/-! is_whole -/
abbrev s_is_whole : Stmt := topS 13
def N_is_whole : List Str := ["thing"]
theorem sc_is_whole : FnScope N_is_whole ["thing"] (defScope s_is_whole) := ⟨rfl, rfl, rfl, by decide +kernel, rfl, by decide +kernel, by decide +kernel⟩
def b_is_whole : Fr → Sto → RS := (sRet (vAnd (mL (isiA csL) (mCons (mVar 0) (mCons (mC (.ty "int")) mNil))) (m1 notM (mL (isiA csL) (mCons (mVar 0) (mCons (mC (.ty "bool")) mNil))))))
def p_is_whole : List AV → M AV := pureM (runZ N_is_whole.length b_is_whole)
/-! is_lit -/
abbrev s_is_lit : Stmt := topS 14
def N_is_lit : List Str := ["thing"]
theorem sc_is_lit : FnScope N_is_lit ["thing"] (defScope s_is_lit) := ⟨rfl, rfl, rfl, by decide +kernel, rfl, by decide +kernel, by decide +kernel⟩
def b_is_lit : Fr → Sto → RS := (sRet (vAnd (mCallF 1 p_is_whole [] (mCons (mVar 0) mNil)) (m3 leM leM (mC (.int 1)) (mL absM (mCons (mVar 0) mNil)) (mC (.int 40)))))
def p_is_lit : List AV → M AV := pureM (runZ N_is_lit.length b_is_lit)
/-! is_clause -/
abbrev s_is_clause : Stmt := topS 15
def N_is_clause : List Str := ["thing", "lit", "one", "other"]
theorem sc_is_clause : FnScope N_is_clause ["thing"] (defScope s_is_clause) := ⟨rfl, rfl, rfl, by decide +kernel, rfl, by decide +kernel, by decide +kernel⟩
def b_is_clause : Fr → Sto → RS := (sSeq (sIf (bOr (bNot (mB (mL (isiA csL) (mCons (mVar 0) (mCons (mC (.ty "tuple")) mNil))))) (bNot (mB (mL allM (mCons (mComp [1] (.nm 1) (mIter (mVar 0)) mYes (mCallF 1 p_is_lit [] (mCons (mVar 1) mNil))) mNil))))) (sRet (mC (.bl false))) sNext)
  (sRet (mL allM (mCons (mComp [2, 3] (.tp [2, 3]) (mZip (mVar 0) (mSlice (mVar 0) (some (mC (.int 1))) none)) mYes (m2 ltM (mL absM (mCons (mVar 2) mNil)) (mL absM (mCons (mVar 3) mNil)))) mNil))))
def p_is_clause : List AV → M AV := pureM (runZ N_is_clause.length b_is_clause)
/-! is_own -/
abbrev s_is_own : Stmt := topS 24
def N_is_own : List Str := ["thing", "letters", "lit"]
theorem sc_is_own : FnScope N_is_own ["thing", "letters"] (defScope s_is_own) := ⟨rfl, rfl, rfl, by decide +kernel, rfl, by decide +kernel, by decide +kernel⟩
def b_is_own : Fr → Sto → RS := (sRet (vAnd (mCallF 1 p_is_clause [] (mCons (mVar 0) mNil)) (mL allM (mCons (mComp [2] (.nm 2) (mIter (mVar 0)) mYes (m2 leM (mL absM (mCons (mVar 2) mNil)) (mVar 1))) mNil))))
def p_is_own : List AV → M AV := pureM (runZ N_is_own.length b_is_own)
/-! first_wrong -/
abbrev s_first_wrong : Stmt := topS 25
def N_first_wrong : List Str := ["clauses", "letters", "twice", "known", "place", "clause"]
theorem sc_first_wrong : FnScope N_first_wrong ["clauses", "letters", "twice"] (defScope s_first_wrong) := ⟨rfl, rfl, rfl, by decide +kernel, rfl, by decide +kernel, by decide +kernel⟩
def b_first_wrong : Fr → Sto → RS := (sSeq (sAsg (.nm 3) mNewT)
  (sSeq (sFor (.tp [4, 5]) (mEnum (mVar 0)) (sSeq (sIf (bOr (bNot (mB (mCallF 2 p_is_own [] (mCons (mVar 5) (mCons (mVar 1) mNil))))) (bAnd (mB (m2 inM (mVar 5) (mVar 3))) (bNot (mB (mVar 2))))) (sRet (mVar 4)) sNext)
  (sAsgG (gItem (mVar 3) (mVar 5)) (mC (.bl true)))))
  (sRet (mC .non))))
def p_first_wrong : List AV → M AV := pureM (runZ N_first_wrong.length b_first_wrong)
/-! Book.__init__ -/
abbrev s_book_init : Stmt := inClass (topS 26) 0
def N_book_init : List Str := ["self", "letters", "clauses", "place"]
theorem sc_book_init : FnScope N_book_init ["self", "letters", "clauses"] (defScope s_book_init) := ⟨rfl, rfl, rfl, by decide +kernel, rfl, by decide +kernel, by decide +kernel⟩
def b_book_init : Fr → Sto → RS := (sSeq (sIf (bOr (bNot (mB (mCallF 1 p_is_whole [] (mCons (mVar 1) mNil)))) (bNot (mB (m3 leM leM (mC (.int 0)) (mVar 1) (mC (.int 40)))))) sStuck sNext)
  (sSeq (sIf (bOr (bNot (mB (mL (isiA csL) (mCons (mVar 2) (mCons (mC (.ty "tuple")) mNil))))) (mB (m2 gtM (mL lenM (mCons (mVar 2) mNil)) (mC (.int 400))))) sStuck sNext)
  (sSeq (sAsg (.nm 3) (mCallF 3 p_first_wrong [.bl false] (mCons (mVar 2) (mCons (mVar 1) mNil))))
  (sSeq (sIf (mB (m2 notNM (mVar 3) (mC .non))) sStuck sNext)
  (sSeq (sFldM "Book" "letters" (mVar 0) (mVar 1))
  (sFldM "Book" "clauses" (mVar 0) (mVar 2)))))))
def p_book_init : List AV → M AV := runK N_book_init.length b_book_init
/-! check_book -/
abbrev s_check_book : Stmt := topS 27
def N_check_book : List Str := ["thing"]
theorem sc_check_book : FnScope N_check_book ["thing"] (defScope s_check_book) := ⟨rfl, rfl, rfl, by decide +kernel, rfl, by decide +kernel, by decide +kernel⟩
def b_check_book : Fr → Sto → RS := (sIf (bNot (mB (mL (isiA csL) (mCons (mVar 0) (mCons (mC (.glo "Book")) mNil))))) sStuck sNext)
def p_check_book : List AV → M AV := pureM (runZ N_check_book.length b_check_book)
/-! Ground.__init__ -/
abbrev s_ground_init : Stmt := inClass (topS 40) 0
def N_ground_init : List Str := ["self", "book", "clause"]
theorem sc_ground_init : FnScope N_ground_init ["self", "book"] (defScope s_ground_init) := ⟨rfl, rfl, rfl, by decide +kernel, rfl, by decide +kernel, by decide +kernel⟩
def b_ground_init : Fr → Sto → RS := (sSeq (sFldM "Ground" "book" (mVar 0) (mVar 1))
  (sSeq (sFldM "Ground" "held" (mVar 0) (mDcT [2] (.nm 2) (mIter (m1 (fldM "Book" "clauses") (mVar 1))) mYes (mVar 2) (mC (.bl true))))
  (sSeq (sFldM "Ground" "found" (mVar 0) mEmpT)
  (sFldM "Ground" "tail" (mVar 0) (mL lstM mNil)))))
def p_ground_init : List AV → M AV := runK N_ground_init.length b_ground_init
/-! Standing.__init__ -/
abbrev s_standing_init : Stmt := inClass (topS 41) 0
def N_standing_init : List Str := ["self", "ground"]
theorem sc_standing_init : FnScope N_standing_init ["self", "ground"] (defScope s_standing_init) := ⟨rfl, rfl, rfl, by decide +kernel, rfl, by decide +kernel, by decide +kernel⟩
def b_standing_init : Fr → Sto → RS := (sSeq (sFldM "Standing" "book" (mVar 0) (m1 (fldM "Ground" "book") (mVar 1)))
  (sSeq (sFldM "Standing" "held" (mVar 0) (mL tupleM (mCons (mL sortTM (mCons (m1 (fldM "Ground" "held") (mVar 1)) mNil)) mNil)))
  (sSeq (sFldM "Standing" "found" (mVar 0) (mL tupleM (mCons (mL sortTM (mCons (m1 (fldM "Ground" "found") (mVar 1)) mNil)) mNil)))
  (sFldM "Standing" "tail" (mVar 0) (mL tupleM (mCons (m1 (fldM "Ground" "tail") (mVar 1)) mNil))))))
def p_standing_init : List AV → M AV := runK N_standing_init.length b_standing_init
/-! Work.show -/
abbrev s_work_show : Stmt := inClass (topS 72) 5
def N_work_show : List Str := ["self", "now"]
theorem sc_work_show : FnScope N_work_show ["self"] (defScope s_work_show) := ⟨rfl, rfl, rfl, by decide +kernel, rfl, by decide +kernel, by decide +kernel⟩
def b_work_show : Fr → Sto → RS := (sSeq (sAsg (.nm 1) (mMake "Standing" 2 p_standing_init [] (mCons (m1 (fldM "Work" "ground") (mVar 0)) mNil)))
  (sAsgG (gTupM [(gFldM "Work" "book" (mVar 0)), (gFldM "Work" "held" (mVar 0)), (gFldM "Work" "found" (mVar 0)), (gFldM "Work" "tail" (mVar 0))]) (mL tupM (mCons (m1 (fldM "Standing" "book") (mVar 1)) (mCons (m1 (fldM "Standing" "held") (mVar 1)) (mCons (m1 (fldM "Standing" "found") (mVar 1)) (mCons (m1 (fldM "Standing" "tail") (mVar 1)) mNil)))))))
def p_work_show : List AV → M AV := runK N_work_show.length b_work_show
/-! Work.__init__ -/
abbrev s_work_init : Stmt := inClass (topS 72) 0
def N_work_init : List Str := ["self", "book", "most"]
theorem sc_work_init : FnScope N_work_init ["self", "book", "most"] (defScope s_work_init) := ⟨rfl, rfl, rfl, by decide +kernel, rfl, by decide +kernel, by decide +kernel⟩
def b_work_init : Fr → Sto → RS := (sSeq (sExp (mCallF 1 p_check_book [] (mCons (mVar 1) mNil)))
  (sSeq (sIf (bOr (bNot (mB (mCallF 1 p_is_whole [] (mCons (mVar 2) mNil)))) (bNot (mB (m3 leM leM (mC (.int 0)) (mVar 2) (mC (.int 4000)))))) sStuck sNext)
  (sSeq (sFldM "Work" "most" (mVar 0) (mVar 2))
  (sSeq (sFldM "Work" "ground" (mVar 0) (mMake "Ground" 2 p_ground_init [] (mCons (mVar 1) mNil)))
  (sSeq (sFldM "Work" "log" (mVar 0) (mL tupM mNil))
  (sSeq (sAsg4 (gFldM "Work" "book" (mVar 0)) (gFldM "Work" "held" (mVar 0)) (gFldM "Work" "found" (mVar 0)) (gFldM "Work" "tail" (mVar 0)) (mC .non))
  (sExp (mMeth "Work" "show" 1 p_work_show [] (mVar 0) mNil))))))))
def p_work_init : List AV → M AV := runK N_work_init.length b_work_init
/-! is_line -/
abbrev s_is_line : Stmt := topS 37
def N_is_line : List Str := ["thing", "word", "rest"]
theorem sc_is_line : FnScope N_is_line ["thing"] (defScope s_is_line) := ⟨rfl, rfl, rfl, by decide +kernel, rfl, by decide +kernel, by decide +kernel⟩
def b_is_line : Fr → Sto → RS := (sSeq (sIf (bOr (bNot (mB (mL (isiA csL) (mCons (mVar 0) (mCons (mC (.ty "tuple")) mNil))))) (bOr (mB (m2 ltM (mL lenM (mCons (mVar 0) mNil)) (mC (.int 2)))) (bNot (mB (mL (isiA csL) (mCons (m2 ixM (mVar 0) (mC (.int 0))) (mCons (mC (.ty "str")) mNil))))))) (sRet (mC (.bl false))) sNext)
  (sSeq (sAsgG (gStarM 1 2) (mVar 0))
  (sSeq (sIf (mB (m2 eq2M (mVar 1) (mC (.str (Str.ofString "back"))))) (sRet (vAnd (m2 eq2M (mL lenM (mCons (mVar 2) mNil)) (mC (.int 1))) (vAnd (mCallF 1 p_is_whole [] (mCons (m2 ixM (mVar 2) (mC (.int 0))) mNil)) (m2 geM (m2 ixM (mVar 2) (mC (.int 0))) (mC (.int 0)))))) sNext)
  (sSeq (sIf (mB (m2 eq2M (mVar 1) (mC (.str (Str.ofString "leave"))))) (sRet (vAnd (m2 eq2M (mL lenM (mCons (mVar 2) mNil)) (mC (.int 2))) (vAnd (mCallF 1 p_is_clause [] (mCons (m2 ixM (mVar 2) (mC (.int 0))) mNil)) (vAnd (mCallF 1 p_is_whole [] (mCons (m2 ixM (mVar 2) (mC (.int 1))) mNil)) (m2 inM (m2 ixM (mVar 2) (mC (.int 1))) (m2 ixM (mVar 2) (mC (.int 0)))))))) sNext)
  (sRet (vAnd (m2 inM (mVar 1) (mC kt_OF_CLAUSE)) (vAnd (m2 eq2M (mL lenM (mCons (mVar 2) mNil)) (mC (.int 1))) (mCallF 1 p_is_clause [] (mCons (m2 ixM (mVar 2) (mC (.int 0))) mNil)))))))))
def p_is_line : List AV → M AV := pureM (runZ N_is_line.length b_is_line)
/-! greatest_letter -/
abbrev s_greatest_letter : Stmt := topS 17
def N_greatest_letter : List Str := ["clauses", "clause", "lit"]
theorem sc_greatest_letter : FnScope N_greatest_letter ["clauses"] (defScope s_greatest_letter) := ⟨rfl, rfl, rfl, by decide +kernel, rfl, by decide +kernel, by decide +kernel⟩
def b_greatest_letter : Fr → Sto → RS := (sRet (mMaxD (mComp2 [1, 2] [2] (.nm 1) (mIter (mVar 0)) (.nm 2) (mIter (mVar 1)) mYes (mL absM (mCons (mVar 2) mNil))) (mC (.int 0))))
def p_greatest_letter : List AV → M AV := pureM (runZ N_greatest_letter.length b_greatest_letter)
/-! Ground.is_near -/
abbrev s_ground_is_near : Stmt := inClass (topS 40) 3
def N_ground_is_near : List Str := ["self", "clause"]
theorem sc_ground_is_near : FnScope N_ground_is_near ["self", "clause"] (defScope s_ground_is_near) := ⟨rfl, rfl, rfl, by decide +kernel, rfl, by decide +kernel, by decide +kernel⟩
def b_ground_is_near : Fr → Sto → RS := (sRet (m2 leM (mCallF 1 p_greatest_letter [] (mCons (mL lstM (mCons (mVar 1) mNil)) mNil)) (m1 (fldM "Book" "letters") (m1 (fldM "Ground" "book") (mVar 0)))))
def p_ground_is_near : List AV → M AV := runK N_ground_is_near.length b_ground_is_near
/-! walk -/
abbrev s_walk : Stmt := topS 29
def N_walk : List Str := ["clauses", "lits", "known", "steps", "more", "number", "clause", "open_lits", "first", "others", "lit"]
theorem sc_walk : FnScope N_walk ["clauses", "lits"] (defScope s_walk) := ⟨rfl, rfl, rfl, by decide +kernel, rfl, by decide +kernel, by decide +kernel⟩
def b_walk : Fr → Sto → RS := (sSeq (sAsgG (gSet (.tp [2, 3])) (mL tupM (mCons (mDcKn [10] (.nm 10) (mIter (mVar 1)) mYes (mVar 10) (mC (.bl true))) (mCons (mL newM mNil) mNil))))
  (sSeq (sAsg (.nm 4) (mC (.bl true)))
  (sSeq (sWhile 100 (mB (mVar 4)) (sSeq (sAsg (.nm 4) (mC (.bl false)))
  (sFor (.tp [5, 6]) (mEnum (mVar 0)) (sSeq (sAsg (.nm 7) (mComp [10] (.nm 10) (mIter (mVar 6)) (mB (m2 notInM (m2 subM (mC (.int 0)) (mVar 10)) (mVar 2))) (mVar 10)))
  (sSeq (sIf (mB (m2 eq2M (mVar 7) (mL lstM mNil))) (sRet (mL tupM (mCons (mC .non) (mCons (m2 catM (mVar 3) (mL lstM (mCons (mL tupM (mCons (mC (.int 0)) (mCons (mVar 5) mNil))) mNil))) mNil)))) sNext)
  (sSeq (sAsgG (gStarM 8 9) (mVar 7))
  (sIf (bAnd (mB (m2 eq2M (mVar 9) (mL lstM mNil))) (mB (m2 notInM (mVar 8) (mVar 2)))) (sSeq (sAsg2 (gItem (mVar 2) (mVar 8)) (gSet (.nm 4)) (mC (.bl true)))
  (sExp (mAppend (mVar 3) (mL tupM (mCons (mVar 8) (mCons (mVar 5) mNil)))))) sNext)))))))
  (sRet (mL tupM (mCons (mVar 2) (mCons (mVar 3) mNil)))))))
def p_walk : List AV → M AV := pureM (runZ N_walk.length b_walk)
/-! come -/
abbrev s_come : Stmt := topS 30
def N_come : List Str := ["clauses", "lits", "known", "steps"]
theorem sc_come : FnScope N_come ["clauses", "lits"] (defScope s_come) := ⟨rfl, rfl, rfl, by decide +kernel, rfl, by decide +kernel, by decide +kernel⟩
def b_come : Fr → Sto → RS := (sSeq (sAsgG (gSet (.tp [2, 3])) (mCallF 2 p_walk [] (mCons (mVar 0) (mCons (mVar 1) mNil))))
  (sRet (mVar 2)))
def p_come : List AV → M AV := pureM (runZ N_come.length b_come)
/-! contraries -/
abbrev s_contraries : Stmt := topS 18
def N_contraries : List Str := ["clause", "lit"]
theorem sc_contraries : FnScope N_contraries ["clause"] (defScope s_contraries) := ⟨rfl, rfl, rfl, by decide +kernel, rfl, by decide +kernel, by decide +kernel⟩
def b_contraries : Fr → Sto → RS := (sRet (mL tupleM (mCons (mComp [1] (.nm 1) (mIter (mVar 0)) mYes (m2 subM (mC (.int 0)) (mVar 1))) mNil)))
def p_contraries : List AV → M AV := pureM (runZ N_contraries.length b_contraries)
/-! follows_of -/
abbrev s_follows_of : Stmt := topS 32
def N_follows_of : List Str := ["clauses", "clause"]
theorem sc_follows_of : FnScope N_follows_of ["clauses", "clause"] (defScope s_follows_of) := ⟨rfl, rfl, rfl, by decide +kernel, rfl, by decide +kernel, by decide +kernel⟩
def b_follows_of : Fr → Sto → RS := (sRet (m2 isNM (mCallF 2 p_come [] (mCons (mVar 0) (mCons (mCallF 1 p_contraries [] (mCons (mVar 1) mNil)) mNil))) (mC .non)))
def p_follows_of : List AV → M AV := pureM (runZ N_follows_of.length b_follows_of)
/-! Ground.all_there -/
abbrev s_ground_all_there : Stmt := inClass (topS 40) 2
def N_ground_all_there : List Str := ["self"]
theorem sc_ground_all_there : FnScope N_ground_all_there ["self"] (defScope s_ground_all_there) := ⟨rfl, rfl, rfl, by decide +kernel, rfl, by decide +kernel, by decide +kernel⟩
def b_ground_all_there : Fr → Sto → RS := (sRet (m2 catM (mL listM (mCons (m1 (fldM "Ground" "held") (mVar 0)) mNil)) (mL listM (mCons (m1 (fldM "Ground" "found") (mVar 0)) mNil))))
def p_ground_all_there : List AV → M AV := runK N_ground_all_there.length b_ground_all_there
/-! Ground.takes_add -/
abbrev s_ground_takes_add : Stmt := inClass (topS 40) 6
def N_ground_takes_add : List Str := ["self", "clause"]
theorem sc_ground_takes_add : FnScope N_ground_takes_add ["self", "clause"] (defScope s_ground_takes_add) := ⟨rfl, rfl, rfl, by decide +kernel, rfl, by decide +kernel, by decide +kernel⟩
def b_ground_takes_add : Fr → Sto → RS := (sSeq (sIf (bOr (mB (m2 inM (mVar 1) (m1 (fldM "Ground" "held") (mVar 0)))) (bOr (mB (m2 inM (mVar 1) (m1 (fldM "Ground" "found") (mVar 0)))) (bNot (mB (mMeth "Ground" "is_near" 2 p_ground_is_near [] (mVar 0) (mCons (mVar 1) mNil)))))) (sRet (mC (.bl false))) sNext)
  (sRet (mCallF 2 p_follows_of [] (mCons (mMeth "Ground" "all_there" 1 p_ground_all_there [] (mVar 0) mNil) (mCons (mVar 1) mNil)))))
def p_ground_takes_add : List AV → M AV := runK N_ground_takes_add.length b_ground_takes_add
/-! Ground.takes_found -/
abbrev s_ground_takes_found : Stmt := inClass (topS 40) 7
def N_ground_takes_found : List Str := ["self", "clause"]
theorem sc_ground_takes_found : FnScope N_ground_takes_found ["self", "clause"] (defScope s_ground_takes_found) := ⟨rfl, rfl, rfl, by decide +kernel, rfl, by decide +kernel, by decide +kernel⟩
def b_ground_takes_found : Fr → Sto → RS := (sRet (m2 inM (mVar 1) (m1 (fldM "Ground" "found") (mVar 0))))
def p_ground_takes_found : List AV → M AV := runK N_ground_takes_found.length b_ground_takes_found
/-! Ground.others -/
abbrev s_ground_others : Stmt := inClass (topS 40) 1
def N_ground_others : List Str := ["self", "clause", "one"]
theorem sc_ground_others : FnScope N_ground_others ["self", "clause"] (defScope s_ground_others) := ⟨rfl, rfl, rfl, by decide +kernel, rfl, by decide +kernel, by decide +kernel⟩
def b_ground_others : Fr → Sto → RS := (sRet (mCompK [2] (.nm 2) (m1 (fldM "Ground" "held") (mVar 0)) (mB (m2 ne2M (mVar 2) (mVar 1))) (mVar 2)))
def p_ground_others : List AV → M AV := runK N_ground_others.length b_ground_others
/-! Ground.takes_drop -/
abbrev s_ground_takes_drop : Stmt := inClass (topS 40) 8
def N_ground_takes_drop : List Str := ["self", "clause"]
theorem sc_ground_takes_drop : FnScope N_ground_takes_drop ["self", "clause"] (defScope s_ground_takes_drop) := ⟨rfl, rfl, rfl, by decide +kernel, rfl, by decide +kernel, by decide +kernel⟩
def b_ground_takes_drop : Fr → Sto → RS := (sRet (vAnd (m2 inM (mVar 1) (m1 (fldM "Ground" "held") (mVar 0))) (mCallF 2 p_follows_of [] (mCons (mMeth "Ground" "others" 2 p_ground_others [] (mVar 0) (mCons (mVar 1) mNil)) (mCons (mVar 1) mNil)))))
def p_ground_takes_drop : List AV → M AV := runK N_ground_takes_drop.length b_ground_takes_drop
/-! made_of -/
abbrev s_made_of : Stmt := topS 19
def N_made_of : List Str := ["lits", "found", "lit"]
theorem sc_made_of : FnScope N_made_of ["lits"] (defScope s_made_of) := ⟨rfl, rfl, rfl, by decide +kernel, rfl, by decide +kernel, by decide +kernel⟩
def b_made_of : Fr → Sto → RS := (sSeq (sAsg (.nm 1) (m1 sortAM (mDcK [2] (.nm 2) (mIter (mVar 0)) mYes (mVar 2) (mC (.bl true)))))
  (sSeq (sIf (mB (m2 ne2M (mLenSc [2] (.nm 2) (mIter (mVar 1)) mYes (mL absM (mCons (mVar 2) mNil))) (mL lenM (mCons (mVar 1) mNil)))) (sRet (mC .non)) sNext)
  (sRet (mL tupleM (mCons (mVar 1) mNil)))))
def p_made_of : List AV → M AV := pureM (runZ N_made_of.length b_made_of)
/-! resolve -/
abbrev s_resolve : Stmt := topS 20
def N_resolve : List Str := ["one", "other", "lit", "own"]
theorem sc_resolve : FnScope N_resolve ["one", "other", "lit"] (defScope s_resolve) := ⟨rfl, rfl, rfl, by decide +kernel, rfl, by decide +kernel, by decide +kernel⟩
def b_resolve : Fr → Sto → RS := (sRet (mCallF 1 p_made_of [] (mCons (m2 catM (mComp [3] (.nm 3) (mIter (mVar 0)) (mB (m2 ne2M (mVar 3) (mVar 2))) (mVar 3)) (mComp [3] (.nm 3) (mIter (mVar 1)) (mB (m2 ne2M (mVar 3) (m2 subM (mC (.int 0)) (mVar 2)))) (mVar 3))) mNil)))
def p_resolve : List AV → M AV := pureM (runZ N_resolve.length b_resolve)
/-! made_with -/
abbrev s_made_with : Stmt := topS 33
def N_made_with : List Str := ["clauses", "clause", "lit", "other"]
theorem sc_made_with : FnScope N_made_with ["clauses", "clause", "lit"] (defScope s_made_with) := ⟨rfl, rfl, rfl, by decide +kernel, rfl, by decide +kernel, by decide +kernel⟩
def b_made_with : Fr → Sto → RS := (sRet (mComp [3] (.nm 3) (mIter (mVar 0)) (mB (m2 inM (m2 subM (mC (.int 0)) (mVar 2)) (mVar 3))) (mCallF 3 p_resolve [] (mCons (mVar 1) (mCons (mVar 3) (mCons (mVar 2) mNil))))))
def p_made_with : List AV → M AV := pureM (runZ N_made_with.length b_made_with)
/-! goes_by -/
abbrev s_goes_by : Stmt := topS 34
def N_goes_by : List Str := ["clauses", "clause", "lit", "made"]
theorem sc_goes_by : FnScope N_goes_by ["clauses", "clause", "lit"] (defScope s_goes_by) := ⟨rfl, rfl, rfl, by decide +kernel, rfl, by decide +kernel, by decide +kernel⟩
def b_goes_by : Fr → Sto → RS := (sRet (mL allM (mCons (mComp [3] (.nm 3) (mIter (mCallF 3 p_made_with [] (mCons (mVar 0) (mCons (mVar 1) (mCons (mVar 2) mNil))))) mYes (vOr (m2 isNM (mVar 3) (mC .non)) (mCallF 2 p_follows_of [] (mCons (mVar 0) (mCons (mVar 3) mNil))))) mNil)))
def p_goes_by : List AV → M AV := pureM (runZ N_goes_by.length b_goes_by)
/-! Ground.takes_leave -/
abbrev s_ground_takes_leave : Stmt := inClass (topS 40) 9
def N_ground_takes_leave : List Str := ["self", "clause", "lit"]
theorem sc_ground_takes_leave : FnScope N_ground_takes_leave ["self", "clause", "lit"] (defScope s_ground_takes_leave) := ⟨rfl, rfl, rfl, by decide +kernel, rfl, by decide +kernel, by decide +kernel⟩
def b_ground_takes_leave : Fr → Sto → RS := (sRet (vAnd (m2 inM (mVar 1) (m1 (fldM "Ground" "held") (mVar 0))) (mCallF 3 p_goes_by [] (mCons (mMeth "Ground" "others" 2 p_ground_others [] (mVar 0) (mCons (mVar 1) mNil)) (mCons (mVar 1) (mCons (mVar 2) mNil))))))
def p_ground_takes_leave : List AV → M AV := runK N_ground_takes_leave.length b_ground_takes_leave
/-! Ground.is_clean -/
abbrev s_ground_is_clean : Stmt := inClass (topS 40) 4
def N_ground_is_clean : List Str := ["self", "clause", "start", "lit", "left"]
theorem sc_ground_is_clean : FnScope N_ground_is_clean ["self", "clause", "start"] (defScope s_ground_is_clean) := ⟨rfl, rfl, rfl, by decide +kernel, rfl, by decide +kernel, by decide +kernel⟩
def b_ground_is_clean : Fr → Sto → RS := (sRet (m1 notM (mL anyM (mCons (mComp [3, 4] (.tp [3, 4]) (mIter (mSlice (m1 (fldM "Ground" "tail") (mVar 0)) (some (mVar 2)) none)) mYes (m2 inM (m2 subM (mC (.int 0)) (mVar 3)) (mVar 1))) mNil))))
def p_ground_is_clean : List AV → M AV := runK N_ground_is_clean.length b_ground_is_clean
/-! Ground.has_room -/
abbrev s_ground_has_room : Stmt := inClass (topS 40) 5
def N_ground_has_room : List Str := ["self", "clause"]
theorem sc_ground_has_room : FnScope N_ground_has_room ["self", "clause"] (defScope s_ground_has_room) := ⟨rfl, rfl, rfl, by decide +kernel, rfl, by decide +kernel, by decide +kernel⟩
def b_ground_has_room : Fr → Sto → RS := (sRet (vOr (m2 inM (mVar 1) (m1 (fldM "Book" "clauses") (m1 (fldM "Ground" "book") (mVar 0)))) (m2 ltM (mL lenM (mCons (m1 (fldM "Book" "clauses") (m1 (fldM "Ground" "book") (mVar 0))) mNil)) (mC (.int 400)))))
def p_ground_has_room : List AV → M AV := runK N_ground_has_room.length b_ground_has_room
/-! Ground.takes_put -/
abbrev s_ground_takes_put : Stmt := inClass (topS 40) 10
def N_ground_takes_put : List Str := ["self", "clause"]
theorem sc_ground_takes_put : FnScope N_ground_takes_put ["self", "clause"] (defScope s_ground_takes_put) := ⟨rfl, rfl, rfl, by decide +kernel, rfl, by decide +kernel, by decide +kernel⟩
def b_ground_takes_put : Fr → Sto → RS := (sRet (vAnd (mMeth "Ground" "is_near" 2 p_ground_is_near [] (mVar 0) (mCons (mVar 1) mNil)) (vAnd (mMeth "Ground" "is_clean" 3 p_ground_is_clean [] (mVar 0) (mCons (mVar 1) (mCons (mC (.int 0)) mNil))) (mMeth "Ground" "has_room" 2 p_ground_has_room [] (mVar 0) (mCons (mVar 1) mNil)))))
def p_ground_takes_put : List AV → M AV := runK N_ground_takes_put.length b_ground_takes_put
/-! Ground.takes_back -/
abbrev s_ground_takes_back : Stmt := inClass (topS 40) 11
def N_ground_takes_back : List Str := ["self", "number"]
theorem sc_ground_takes_back : FnScope N_ground_takes_back ["self", "number"] (defScope s_ground_takes_back) := ⟨rfl, rfl, rfl, by decide +kernel, rfl, by decide +kernel, by decide +kernel⟩
def b_ground_takes_back : Fr → Sto → RS := (sRet (vAnd (m2 ltM (mVar 1) (mL lenM (mCons (m1 (fldM "Ground" "tail") (mVar 0)) mNil))) (mMeth "Ground" "is_clean" 3 p_ground_is_clean [] (mVar 0) (mCons (m2 ixM (m2 ixM (m1 (fldM "Ground" "tail") (mVar 0)) (mVar 1)) (mC (.int 1))) (mCons (m2 catM (mVar 1) (mC (.int 1))) mNil)))))
def p_ground_takes_back : List AV → M AV := runK N_ground_takes_back.length b_ground_takes_back
/-! Ground.takes -/
abbrev s_ground_takes : Stmt := inClass (topS 40) 12
def N_ground_takes : List Str := ["self", "line", "word", "rest"]
theorem sc_ground_takes : FnScope N_ground_takes ["self", "line"] (defScope s_ground_takes) := ⟨rfl, rfl, rfl, by decide +kernel, rfl, by decide +kernel, by decide +kernel⟩
def b_ground_takes : Fr → Sto → RS := (sSeq (sAsgG (gStarM 2 3) (mVar 1))
  (sSeq (sIf (mB (m2 eq2M (mVar 2) (mC (.str (Str.ofString "add"))))) (sRet (mMeth "Ground" "takes_add" 2 p_ground_takes_add [] (mVar 0) (mCons (m2 ixM (mVar 3) (mC (.int 0))) mNil))) sNext)
  (sSeq (sIf (mB (m2 inM (mVar 2) (mL tupM (mCons (mC (.str (Str.ofString "keep"))) (mCons (mC (.str (Str.ofString "forget"))) mNil))))) (sRet (mMeth "Ground" "takes_found" 2 p_ground_takes_found [] (mVar 0) (mCons (m2 ixM (mVar 3) (mC (.int 0))) mNil))) sNext)
  (sSeq (sIf (mB (m2 eq2M (mVar 2) (mC (.str (Str.ofString "drop"))))) (sRet (mMeth "Ground" "takes_drop" 2 p_ground_takes_drop [] (mVar 0) (mCons (m2 ixM (mVar 3) (mC (.int 0))) mNil))) sNext)
  (sSeq (sIf (mB (m2 eq2M (mVar 2) (mC (.str (Str.ofString "leave"))))) (sRet (mMeth "Ground" "takes_leave" 3 p_ground_takes_leave [] (mVar 0) (mCons (m2 ixM (mVar 3) (mC (.int 0))) (mCons (m2 ixM (mVar 3) (mC (.int 1))) mNil)))) sNext)
  (sSeq (sIf (mB (m2 eq2M (mVar 2) (mC (.str (Str.ofString "put"))))) (sRet (mMeth "Ground" "takes_put" 2 p_ground_takes_put [] (mVar 0) (mCons (m2 ixM (mVar 3) (mC (.int 0))) mNil))) sNext)
  (sRet (mMeth "Ground" "takes_back" 2 p_ground_takes_back [] (mVar 0) (mCons (m2 ixM (mVar 3) (mC (.int 0))) mNil)))))))))
def p_ground_takes : List AV → M AV := runK N_ground_takes.length b_ground_takes
/-! with_one -/
abbrev s_with_one : Stmt := topS 38
def N_with_one : List Str := ["rows", "clause", "found"]
theorem sc_with_one : FnScope N_with_one ["rows", "clause"] (defScope s_with_one) := ⟨rfl, rfl, rfl, by decide +kernel, rfl, by decide +kernel, by decide +kernel⟩
def b_with_one : Fr → Sto → RS := (sSeq (sAsg (.nm 2) (mL dictN (mCons (mVar 0) mNil)))
  (sSeq (sAsgG (gItem (mVar 2) (mVar 1)) (mC (.bl true)))
  (sRet (mVar 2))))
def p_with_one : List AV → M AV := pureM (runZ N_with_one.length b_with_one)
/-! without -/
abbrev s_without : Stmt := topS 39
def N_without : List Str := ["rows", "clause", "one"]
theorem sc_without : FnScope N_without ["rows", "clause"] (defScope s_without) := ⟨rfl, rfl, rfl, by decide +kernel, rfl, by decide +kernel, by decide +kernel⟩
def b_without : Fr → Sto → RS := (sRet (mDcTK [2] (.nm 2) (mVar 0) (mB (m2 ne2M (mVar 2) (mVar 1))) (mVar 2) (mC (.bl true))))
def p_without : List AV → M AV := pureM (runZ N_without.length b_without)
/-! Ground.hold -/
abbrev s_ground_hold : Stmt := inClass (topS 40) 13
def N_ground_hold : List Str := ["self", "clause"]
theorem sc_ground_hold : FnScope N_ground_hold ["self", "clause"] (defScope s_ground_hold) := ⟨rfl, rfl, rfl, by decide +kernel, rfl, by decide +kernel, by decide +kernel⟩
def b_ground_hold : Fr → Sto → RS := (sSeq (sFldM "Ground" "held" (mVar 0) (mCallF 2 p_with_one [] (mCons (m1 (fldM "Ground" "held") (mVar 0)) (mCons (mVar 1) mNil))))
  (sFldM "Ground" "found" (mVar 0) (mCallF 2 p_without [] (mCons (m1 (fldM "Ground" "found") (mVar 0)) (mCons (mVar 1) mNil)))))
def p_ground_hold : List AV → M AV := runK N_ground_hold.length b_ground_hold
/-! Ground.lose -/
abbrev s_ground_lose : Stmt := inClass (topS 40) 14
def N_ground_lose : List Str := ["self", "clause"]
theorem sc_ground_lose : FnScope N_ground_lose ["self", "clause"] (defScope s_ground_lose) := ⟨rfl, rfl, rfl, by decide +kernel, rfl, by decide +kernel, by decide +kernel⟩
def b_ground_lose : Fr → Sto → RS := (sSeq (sFldM "Ground" "held" (mVar 0) (mCallF 2 p_without [] (mCons (m1 (fldM "Ground" "held") (mVar 0)) (mCons (mVar 1) mNil))))
  (sFldM "Ground" "found" (mVar 0) (mCallF 2 p_without [] (mCons (m1 (fldM "Ground" "found") (mVar 0)) (mCons (mVar 1) mNil)))))
def p_ground_lose : List AV → M AV := runK N_ground_lose.length b_ground_lose
/-! Ground.do -/
abbrev s_ground_do : Stmt := inClass (topS 40) 15
def N_ground_do : List Str := ["self", "line", "word", "rest", "lit", "clause", "at", "entry"]
theorem sc_ground_do : FnScope N_ground_do ["self", "line"] (defScope s_ground_do) := ⟨rfl, rfl, rfl, by decide +kernel, rfl, by decide +kernel, by decide +kernel⟩
def b_ground_do : Fr → Sto → RS := (sSeq (sAsgG (gStarM 2 3) (mVar 1))
  (sIf (mB (m2 eq2M (mVar 2) (mC (.str (Str.ofString "add"))))) (sFldM "Ground" "found" (mVar 0) (mCallF 2 p_with_one [] (mCons (m1 (fldM "Ground" "found") (mVar 0)) (mCons (m2 ixM (mVar 3) (mC (.int 0))) mNil)))) (sIf (mB (m2 eq2M (mVar 2) (mC (.str (Str.ofString "keep"))))) (sExp (mMeth "Ground" "hold" 2 p_ground_hold [] (mVar 0) (mCons (m2 ixM (mVar 3) (mC (.int 0))) mNil))) (sIf (mB (m2 eq2M (mVar 2) (mC (.str (Str.ofString "put"))))) (sSeq sStuck
  (sExp (mMeth "Ground" "hold" 2 p_ground_hold [] (mVar 0) (mCons (m2 ixM (mVar 3) (mC (.int 0))) mNil)))) (sIf (mB (m2 eq2M (mVar 2) (mC (.str (Str.ofString "back"))))) (sSeq (sAsgG (gSet (.tp [4, 5])) (m2 ixM (m1 (fldM "Ground" "tail") (mVar 0)) (m2 ixM (mVar 3) (mC (.int 0)))))
  (sSeq (sFldM "Ground" "tail" (mVar 0) (mComp [6, 7] (.tp [6, 7]) (mEnum (m1 (fldM "Ground" "tail") (mVar 0))) (mB (m2 ne2M (mVar 6) (m2 ixM (mVar 3) (mC (.int 0))))) (mVar 7)))
  (sExp (mMeth "Ground" "hold" 2 p_ground_hold [] (mVar 0) (mCons (mVar 5) mNil))))) (sSeq (sExp (mMeth "Ground" "lose" 2 p_ground_lose [] (mVar 0) (mCons (m2 ixM (mVar 3) (mC (.int 0))) mNil)))
  (sIf (mB (m2 eq2M (mVar 2) (mC (.str (Str.ofString "leave"))))) (sFldM "Ground" "tail" (mVar 0) (m2 catM (m1 (fldM "Ground" "tail") (mVar 0)) (mL lstM (mCons (mL tupM (mCons (m2 ixM (mVar 3) (mC (.int 1))) (mCons (m2 ixM (mVar 3) (mC (.int 0))) mNil))) mNil)))) sNext)))))))
def p_ground_do : List AV → M AV := runK N_ground_do.length b_ground_do
/-! ground_by -/
abbrev s_ground_by : Stmt := topS 42
def N_ground_by : List Str := ["book", "lines", "ground", "number", "line"]
theorem sc_ground_by : FnScope N_ground_by ["book", "lines"] (defScope s_ground_by) := ⟨rfl, rfl, rfl, by decide +kernel, rfl, by decide +kernel, by decide +kernel⟩
def b_ground_by : Fr → Sto → RS := (sSeq (sAsg (.nm 2) (mMake "Ground" 2 p_ground_init [] (mCons (mVar 0) mNil)))
  (sSeq (sFor (.tp [3, 4]) (mEnum (mVar 1)) (sSeq (sIf (bOr (bNot (mB (mCallF 1 p_is_line [] (mCons (mVar 4) mNil)))) (bNot (mB (mMeth "Ground" "takes" 2 p_ground_takes [] (mVar 2) (mCons (mVar 4) mNil))))) sStuck sNext)
  (sExp (mMeth "Ground" "do" 2 p_ground_do [] (mVar 2) (mCons (mVar 4) mNil)))))
  (sRet (mVar 2))))
def p_ground_by : List AV → M AV := runK N_ground_by.length b_ground_by
/-! gone -/
abbrev s_gone : Stmt := topS 43
def N_gone : List Str := ["book", "log"]
theorem sc_gone : FnScope N_gone ["book", "log"] (defScope s_gone) := ⟨rfl, rfl, rfl, by decide +kernel, rfl, by decide +kernel, by decide +kernel⟩
def b_gone : Fr → Sto → RS := (sSeq (sExp (mCallF 1 p_check_book [] (mCons (mVar 0) mNil)))
  (sSeq (sIf (bNot (mB (mL (isiA csL) (mCons (mVar 1) (mCons (mC (.ty "tuple")) mNil))))) sStuck sNext)
  (sRet (mMake "Standing" 2 p_standing_init [] (mCons (mCallF 2 p_ground_by [] (mCons (mVar 0) (mCons (mVar 1) mNil))) mNil)))))
def p_gone : List AV → M AV := pureM (runZ N_gone.length b_gone)
/-! _law_things -/
abbrev s_law_things : Stmt := topS 77
def N_law_things : List Str := ["_law_found", "_law_deep", "_law_turn"]
theorem sc_law_things : FnScope N_law_things [] (defScope s_law_things) := ⟨rfl, rfl, rfl, by decide +kernel, rfl, by decide +kernel, by decide +kernel⟩
def b_law_things : Fr → Sto → RS := (sSeq (sAsg (.nm 0) (mL lstM (mCons (mC .non) (mCons (mC (.int 7)) (mCons (mC (.bl true)) (mCons (mC (.bl false)) (mCons (m1 negM (mC (.int 3))) (mCons (m2 powM (mC (.int 10)) (mC (.int 30))) (mCons (mC (.str (Str.ofString ""))) (mCons (mC (.str (Str.ofString "yes"))) (mCons (mC (.str (Str.ofString "add"))) (mCons (mL tupM mNil) (mCons (mL lstM mNil) (mCons mEmpT (mCons (mL tupM (mCons (mC (.int 1)) mNil)) (mCons (mL lstM (mCons (mC (.int 1)) mNil)) (mCons (mDk1 (Str.ofString "a") 1) (mCons (mL tupM (mCons (mL tupM mNil) mNil)) (mCons (mL tupM (mCons (mL lstM mNil) mNil)) (mCons (mL tupM (mCons mEmpT mNil)) mNil))))))))))))))))))))
  (sSeq (sAsg (.nm 0) (m2 catM (mVar 0) (mL lstM (mCons (mMakeZ "Book" 3 p_book_init [] (mCons (mC (.int 2)) (mCons (mL tupM (mCons (mL tupM (mCons (mC (.int 1)) mNil)) mNil)) mNil))) (mCons (mMakeZ "Work" 3 p_work_init [.int 4000] (mCons (mMakeZ "Book" 3 p_book_init [] (mCons (mC (.int 1)) (mCons (mL tupM mNil) mNil))) mNil)) (mCons (mCallF 2 p_gone [] (mCons (mMakeZ "Book" 3 p_book_init [] (mCons (mC (.int 1)) (mCons (mL tupM mNil) mNil))) (mCons (mL tupM mNil) mNil))) (mCons (mL tupM (mCons (mC .non) (mCons (mC .non) mNil))) (mCons (mL tupM (mCons (mL tupM (mCons (mC (.str (Str.ofString "add"))) (mCons (mL tupM mNil) mNil))) mNil)) mNil))))))))
  (sSeq (sAsg (.nm 1) (mL tupM (mCons (mC (.int 1)) mNil)))
  (sSeq (sFor (.nm 2) (mRng mRange1 (mCons (mC (.int 4)) mNil)) (sAsg (.nm 1) (mL tupM (mCons (mVar 1) (mCons (mL lstM (mCons (mVar 1) mNil)) (mCons (mC (.str (Str.ofString "x"))) mNil))))))
  (sRet (m2 catM (mVar 0) (mL lstM (mCons (mVar 1) (mCons (mL tupM (mCons (mC (.str (Str.ofString "add"))) (mCons (mL tupM (mCons (mC (.int 1)) mNil)) mNil))) (mCons (mL tupM (mCons (mC (.int 1)) (mCons (m1 negM (mC (.int 1))) mNil))) (mCons (mL tupM (mCons (mL tupM (mCons (mC (.int 1)) (mCons (mC (.int 2)) mNil))) (mCons (mL tupM (mCons (mC (.int 2)) (mCons (mC (.int 1)) mNil))) mNil))) (mCons (mL lstM (mCons (mL tupM (mCons (mC (.str (Str.ofString "add"))) (mCons (mL tupM mNil) mNil))) mNil)) (mCons (mC (.str (Str.ofString "no"))) (mCons (mL tupM (mCons (mL tupM (mCons (mC (.bl true)) mNil)) mNil)) (mCons (mC (.int 40)) (mCons (mC (.int 41)) mNil))))))))))))))))
def p_law_things : List AV → M AV := pureM (runZ N_law_things.length b_law_things)
/-! _law_purse -/
abbrev s_law_purse : Stmt := topS 75
def N_law_purse : List Str := ["_law_cell_here"]
theorem sc_law_purse : FnScope N_law_purse ["_law_cell_here"] (defScope s_law_purse) := ⟨rfl, rfl, rfl, by decide +kernel, rfl, by decide +kernel, by decide +kernel⟩
def b_law_purse : Fr → Sto → RS := (sRet (mL newM (mCons (m2 catM (m2 repM (m2 modM (mVar 0) (mC (.int 1000000021))) (mC (.int 6007))) (mC (.int 2711))) (mCons (m2 ixM (mL lstM (mCons (mC (.int 0)) (mCons (mVar 0) mNil))) (mL intM (mCons (m2 geM (mVar 0) (m2 powM (mC (.int 10)) (mC (.int 18)))) mNil))) (mCons (mC (.int 0)) mNil)))))
def p_law_purse : List AV → M AV := runK N_law_purse.length b_law_purse
/-! _law_cell -/
abbrev s_law_cell : Stmt := topS 74
def N_law_cell : List Str := ["_law_script", "_law_k", "_law_state", "_law_cell_here"]
theorem sc_law_cell : FnScope N_law_cell ["_law_script", "_law_k"] (defScope s_law_cell) := ⟨rfl, rfl, rfl, by decide +kernel, rfl, by decide +kernel, by decide +kernel⟩
def b_law_cell : Fr → Sto → RS := (sSeq (sIf (mB (m2 ltM (mVar 1) (mL lenM (mCons (mVar 0) mNil)))) (sRet (m2 ixM (mVar 0) (mVar 1))) sNext)
  (sSeq (sAsg (.nm 2) (m2 modM (m2 repM (mC (.int 50021)) (m2 catM (m2 catM (m2 repM (mVar 1) (mVar 1)) (m2 repM (mC (.int 3)) (mVar 1))) (mC (.int 17)))) (mC (.int 1000000021))))
  (sSeq (sFor (.nm 3) (mIter (mSlice (mVar 0) none (some (mC (.int 4))))) (sAsg (.nm 2) (m2 modM (m2 catM (m2 repM (mVar 2) (mC (.int 20011))) (mVar 3)) (mC (.int 1000000021)))))
  (sRet (mVar 2)))))
def p_law_cell : List AV → M AV := pureM (runZ N_law_cell.length b_law_cell)
/-! _law_pick -/
abbrev s_law_pick : Stmt := topS 76
def N_law_pick : List Str := ["_law_purse_here", "_law_many", "_law_state", "_law_taken"]
theorem sc_law_pick : FnScope N_law_pick ["_law_purse_here", "_law_many"] (defScope s_law_pick) := ⟨rfl, rfl, rfl, by decide +kernel, rfl, by decide +kernel, by decide +kernel⟩
def b_law_pick : Fr → Sto → RS := (sSeq (sAsgG (gItem (mVar 0) (mC (.int 2))) (m2 catM (m2 ixM (mVar 0) (mC (.int 2))) (mC (.int 1))))
  (sSeq (sAsg (.nm 2) (m2 modM (m2 ixM (mVar 0) (mC (.int 0))) (mC (.int 1000000021))))
  (sSeq (sAsgG (gItem (mVar 0) (mC (.int 0))) (m2 catM (m2 repM (mVar 2) (m2 catM (m2 modM (mVar 2) (mC (.int 40009))) (mC (.int 20021)))) (m2 repM (mC (.int 60013)) (m2 ixM (mVar 0) (mC (.int 2))))))
  (sSeq (sIf (mB (m2 gtM (m2 ixM (mVar 0) (mC (.int 1))) (mC (.int 0)))) (sSeq (sAsg (.nm 3) (m2 modM (m2 ixM (mVar 0) (mC (.int 1))) (mVar 1)))
  (sSeq (sAsgG (gItem (mVar 0) (mC (.int 1))) (m2 fdivM (m2 ixM (mVar 0) (mC (.int 1))) (mVar 1)))
  (sRet (mVar 3)))) sNext)
  (sRet (m2 modM (m2 fdivM (m2 modM (m2 ixM (mVar 0) (mC (.int 0))) (mC (.int 1000000021))) (mC (.int 16))) (mVar 1)))))))
def p_law_pick : List AV → M AV := runK N_law_pick.length b_law_pick
/-! _law_is_fit -/
abbrev s_law_is_fit : Stmt := topS 79
def N_law_is_fit : List Str := ["_law_number", "_law_thing"]
theorem sc_law_is_fit : FnScope N_law_is_fit ["_law_number", "_law_thing"] (defScope s_law_is_fit) := ⟨rfl, rfl, rfl, by decide +kernel, rfl, by decide +kernel, by decide +kernel⟩
def b_law_is_fit : Fr → Sto → RS := (sSeq (sIf (mB (m2 eq2M (mVar 0) (mC (.int 1)))) (sRet (vAnd (mL (isiA csL) (mCons (mVar 1) (mCons (mC (.ty "int")) mNil))) (vAnd (m1 notM (mL (isiA csL) (mCons (mVar 1) (mCons (mC (.ty "bool")) mNil)))) (m3 leM leM (mC (.int 0)) (mVar 1) (mC (.int 40)))))) sNext)
  (sRet (mL (isiA csL) (mCons (mVar 1) (mCons (mC (.ty "tuple")) mNil)))))
def p_law_is_fit : List AV → M AV := pureM (runZ N_law_is_fit.length b_law_is_fit)
/-! Book.__eq__ -/
abbrev s_book_eq : Stmt := inClass (topS 26) 3
def N_book_eq : List Str := ["self", "other"]
theorem sc_book_eq : FnScope N_book_eq ["self", "other"] (defScope s_book_eq) := ⟨rfl, rfl, rfl, by decide +kernel, rfl, by decide +kernel, by decide +kernel⟩
def b_book_eq : Fr → Sto → RS := (sSeq (sIf (bNot (mB (mL (isiA csL) (mCons (mVar 1) (mCons (mC (.glo "Book")) mNil))))) (sRet (mC (.bl false))) sNext)
  sStuck)
def p_book_eq : List AV → M AV := pureM (runZ N_book_eq.length b_book_eq)
/-! Standing.__eq__ -/
abbrev s_standing_eq : Stmt := inClass (topS 41) 1
def N_standing_eq : List Str := ["self", "other"]
theorem sc_standing_eq : FnScope N_standing_eq ["self", "other"] (defScope s_standing_eq) := ⟨rfl, rfl, rfl, by decide +kernel, rfl, by decide +kernel, by decide +kernel⟩
def b_standing_eq : Fr → Sto → RS := (sSeq (sIf (bOr (bNot (mB (mL (isiA csL) (mCons (mVar 1) (mCons (mC (.glo "Standing")) mNil))))) bStuck) (sRet (mC (.bl false))) sNext)
  sStuck)
def p_standing_eq : List AV → M AV := pureM (runZ N_standing_eq.length b_standing_eq)
/-! Work.__eq__ -/
abbrev s_work_eq : Stmt := inClass (topS 72) 1
def N_work_eq : List Str := ["self", "other"]
theorem sc_work_eq : FnScope N_work_eq ["self", "other"] (defScope s_work_eq) := ⟨rfl, rfl, rfl, by decide +kernel, rfl, by decide +kernel, by decide +kernel⟩
def b_work_eq : Fr → Sto → RS := (sSeq (sIf (bOr (bNot (mB (mL (isiA csL) (mCons (mVar 1) (mCons (mC (.glo "Work")) mNil))))) bStuck) (sRet (mC (.bl false))) sNext)
  sStuck)
def p_work_eq : List AV → M AV := pureM (runZ N_work_eq.length b_work_eq)
/-! _law_bad -/
abbrev s_law_bad : Stmt := topS 80
def N_law_bad : List Str := ["_law_purse_here", "_law_claim_here", "_law_shown", "_law_things_here", "_law_found", "_law_number", "_law_thing"]
theorem sc_law_bad : FnScope N_law_bad ["_law_purse_here", "_law_claim_here", "_law_shown", "_law_things_here"] (defScope s_law_bad) := ⟨rfl, rfl, rfl, by decide +kernel, rfl, by decide +kernel, by decide +kernel⟩
def eqsL : Eqs := [("Book", p_book_eq), ("Standing", p_standing_eq), ("Work", p_work_eq)]
def b_law_bad : Fr → Sto → RS := (sSeq (sAsg (.nm 4) (mL lstM (mCons (mL lstM (mCons (mL listM (mCons (mVar 1) mNil)) (mCons (mVar 2) mNil))) (mCons (mL lstM (mCons (mSlice (mVar 1) (some (mC (.int 1))) none) (mCons (mVar 2) mNil))) (mCons (mL lstM (mCons (m2 catM (mVar 1) (mL tupM (mCons (mC (.int 0)) mNil))) (mCons (mVar 2) mNil))) (mCons (mL lstM (mCons (mSlice (mVar 1) none (some (m1 negM (mC (.int 1))))) (mCons (mVar 2) mNil))) mNil))))))
  (sSeq (sAsg (.nm 4) (m2 catM (mVar 4) (mL lstM (mCons (mL lstM (mCons (m2 catM (mL tupM (mCons (m2 catSM (m2 ixM (mVar 1) (mC (.int 0))) (mC (.str (Str.ofString "s")))) mNil)) (mSlice (mVar 1) (some (mC (.int 1))) none)) (mCons (mVar 2) mNil))) (mCons (mL lstM (mCons (m2 catM (mL tupM (mCons (mL tupM (mCons (m2 ixM (mVar 1) (mC (.int 0))) mNil)) mNil)) (mSlice (mVar 1) (some (mC (.int 1))) none)) (mCons (mVar 2) mNil))) mNil)))))
  (sSeq (sAsg (.nm 4) (m2 catN (mVar 4) (mL lstM (mCons (mL lstM (mCons (m2 catM (mL tupM (mCons (m1 upM (m2 ixM (mVar 1) (mC (.int 0)))) mNil)) (mSlice (mVar 1) (some (mC (.int 1))) none)) (mCons (mVar 2) mNil))) (mCons (mL lstM (mCons (mL tupM (mCons (mVar 1) mNil)) (mCons (mVar 2) mNil))) (mCons (mL lstM (mCons (m2 ixM (mVar 1) (mC (.int 0))) (mCons (mVar 2) mNil))) mNil))))))
  (sSeq (sFor (.nm 5) (mRng mRange1 (mCons (mL lenM (mCons (mVar 1) mNil)) mNil)) (sSeq (sAsg (.nm 6) (m2 ixM (mVar 3) (mCallF 2 p_law_pick [] (mCons (mVar 0) (mCons (mL lenM (mCons (mVar 3) mNil)) mNil)))))
  (sIf (bOr (bAnd (mB (m2 eq2M (mVar 5) (mC (.int 0)))) (mB (m2 (ne3M eqsL) (mVar 6) (m2 ixM (mVar 1) (mC (.int 0)))))) (bAnd (mB (m2 gtM (mVar 5) (mC (.int 0)))) (bNot (mB (mCallF 2 p_law_is_fit [] (mCons (mVar 5) (mCons (mVar 6) mNil))))))) (sExp (mAppend (mVar 4) (mL lstM (mCons (m2 catM (m2 catM (mSlice (mVar 1) none (some (mVar 5))) (mL tupM (mCons (mVar 6) mNil))) (mSlice (mVar 1) (some (m2 catM (mVar 5) (mC (.int 1)))) none)) (mCons (mVar 2) mNil))))) sNext)))
  (sSeq (sAsg (.nm 6) (m2 ixM (mVar 3) (mCallF 2 p_law_pick [] (mCons (mVar 0) (mCons (mL lenM (mCons (mVar 3) mNil)) mNil)))))
  (sSeq (sIf (bNot (mB (mL (isiA csL) (mCons (mVar 6) (mCons (mC (.ty "tuple")) mNil))))) (sExp (mAppend (mVar 4) (mL lstM (mCons (mVar 1) (mCons (mVar 6) mNil))))) sNext)
  (sRet (mVar 4))))))))
def p_law_bad : List AV → M AV := runK N_law_bad.length b_law_bad
/-! are_book -/
abbrev s_are_book : Stmt := topS 49
def N_are_book : List Str := ["letters", "clauses"]
theorem sc_are_book : FnScope N_are_book ["letters", "clauses"] (defScope s_are_book) := ⟨rfl, rfl, rfl, by decide +kernel, rfl, by decide +kernel, by decide +kernel⟩
def b_are_book : Fr → Sto → RS := (sSeq (sIf (bOr (bNot (mB (mCallF 1 p_is_whole [] (mCons (mVar 0) mNil)))) (bNot (mB (m3 leM leM (mC (.int 0)) (mVar 0) (mC (.int 40)))))) (sRet (mC (.bl false))) sNext)
  (sSeq (sIf (bOr (bNot (mB (mL (isiA csL) (mCons (mVar 1) (mCons (mC (.ty "tuple")) mNil))))) (mB (m2 gtM (mL lenM (mCons (mVar 1) mNil)) (mC (.int 400))))) (sRet (mC (.bl false))) sNext)
  (sRet (m2 isNM (mCallF 3 p_first_wrong [.bl false] (mCons (mVar 1) (mCons (mVar 0) mNil))) (mC .non)))))
def p_are_book : List AV → M AV := pureM (runZ N_are_book.length b_are_book)
/-! is_set_so -/
abbrev s_is_set_so : Stmt := topS 45
def N_is_set_so : List Str := ["thing", "letter"]
theorem sc_is_set_so : FnScope N_is_set_so ["thing", "letter"] (defScope s_is_set_so) := ⟨rfl, rfl, rfl, by decide +kernel, rfl, by decide +kernel, by decide +kernel⟩
def b_is_set_so : Fr → Sto → RS := (sRet (vAnd (mCallF 1 p_is_lit [] (mCons (mVar 0) mNil)) (m2 eq2M (mL absM (mCons (mVar 0) mNil)) (mVar 1))))
def p_is_set_so : List AV → M AV := pureM (runZ N_is_set_so.length b_is_set_so)
/-! is_setting -/
abbrev s_is_setting : Stmt := topS 46
def N_is_setting : List Str := ["thing", "place", "lit"]
theorem sc_is_setting : FnScope N_is_setting ["thing"] (defScope s_is_setting) := ⟨rfl, rfl, rfl, by decide +kernel, rfl, by decide +kernel, by decide +kernel⟩
def b_is_setting : Fr → Sto → RS := (sRet (vAnd (mL (isiA csL) (mCons (mVar 0) (mCons (mC (.ty "tuple")) mNil))) (mL allM (mCons (mComp [1, 2] (.tp [1, 2]) (mEnum (mVar 0)) mYes (mCallF 2 p_is_set_so [] (mCons (mVar 2) (mCons (m2 catM (mVar 1) (mC (.int 1))) mNil)))) mNil))))
def p_is_setting : List AV → M AV := pureM (runZ N_is_setting.length b_is_setting)
/-! fits_by -/
abbrev s_fits_by : Stmt := topS 47
def N_fits_by : List Str := ["setting", "clause", "lit"]
theorem sc_fits_by : FnScope N_fits_by ["setting", "clause"] (defScope s_fits_by) := ⟨rfl, rfl, rfl, by decide +kernel, rfl, by decide +kernel, by decide +kernel⟩
def b_fits_by : Fr → Sto → RS := (sRet (mL anyM (mCons (mComp [2] (.nm 2) (mIter (mVar 1)) mYes (m2 eq2M (m2 ixM (mVar 0) (m2 subM (mL absM (mCons (mVar 2) mNil)) (mC (.int 1)))) (mVar 2))) mNil)))
def p_fits_by : List AV → M AV := pureM (runZ N_fits_by.length b_fits_by)
/-! sets_all -/
abbrev s_sets_all : Stmt := topS 56
def N_sets_all : List Str := ["letters", "setting", "clauses", "clause"]
theorem sc_sets_all : FnScope N_sets_all ["letters", "setting", "clauses"] (defScope s_sets_all) := ⟨rfl, rfl, rfl, by decide +kernel, rfl, by decide +kernel, by decide +kernel⟩
def b_sets_all : Fr → Sto → RS := (sSeq (sIf (bOr (bNot (mB (mCallF 1 p_is_setting [] (mCons (mVar 1) mNil)))) (mB (m2 ne2M (mL lenM (mCons (mVar 1) mNil)) (mVar 0)))) (sRet (mC (.bl false))) sNext)
  (sRet (mL allM (mCons (mComp [3] (.nm 3) (mIter (mVar 2)) mYes (mCallF 2 p_fits_by [] (mCons (mVar 1) (mCons (mVar 3) mNil)))) mNil))))
def p_sets_all : List AV → M AV := pureM (runZ N_sets_all.length b_sets_all)
/-! yes_holds -/
abbrev s_yes_holds : Stmt := topS 60
def N_yes_holds : List Str := ["paper", "letters", "clauses"]
theorem sc_yes_holds : FnScope N_yes_holds ["paper", "letters", "clauses"] (defScope s_yes_holds) := ⟨rfl, rfl, rfl, by decide +kernel, rfl, by decide +kernel, by decide +kernel⟩
def b_yes_holds : Fr → Sto → RS := (sRet (mCallF 3 p_sets_all [] (mCons (mVar 1) (mCons (mVar 0) (mCons (mVar 2) mNil)))))
def p_yes_holds : List AV → M AV := pureM (runZ N_yes_holds.length b_yes_holds)
/-! ground_of -/
abbrev s_ground_of : Stmt := topS 54
def N_ground_of : List Str := ["letters", "clauses", "log", "words", "ground", "line"]
theorem sc_ground_of : FnScope N_ground_of ["letters", "clauses", "log", "words"] (defScope s_ground_of) := ⟨rfl, rfl, rfl, by decide +kernel, rfl, by decide +kernel, by decide +kernel⟩
def b_ground_of : Fr → Sto → RS := (sSeq (sIf (bNot (mB (mL (isiA csL) (mCons (mVar 2) (mCons (mC (.ty "tuple")) mNil))))) (sRet (mC .non)) sNext)
  (sSeq (sAsg (.nm 4) (mMake "Ground" 2 p_ground_init [] (mCons (mMakeZ "Book" 3 p_book_init [] (mCons (mVar 0) (mCons (mVar 1) mNil))) mNil)))
  (sSeq (sFor (.nm 5) (mIter (mVar 2)) (sSeq (sIf (bOr (bNot (mB (mCallF 1 p_is_line [] (mCons (mVar 5) mNil)))) (bOr (mB (m2 notInM (m2 ixM (mVar 5) (mC (.int 0))) (mVar 3))) (bNot (mB (mMeth "Ground" "takes" 2 p_ground_takes [] (mVar 4) (mCons (mVar 5) mNil)))))) (sRet (mC .non)) sNext)
  (sExp (mMeth "Ground" "do" 2 p_ground_do [] (mVar 4) (mCons (mVar 5) mNil)))))
  (sRet (mVar 4)))))
def p_ground_of : List AV → M AV := pureM (runZ N_ground_of.length b_ground_of)
/-! is_there -/
abbrev s_is_there : Stmt := topS 55
def N_is_there : List Str := ["ground", "clause"]
theorem sc_is_there : FnScope N_is_there ["ground", "clause"] (defScope s_is_there) := ⟨rfl, rfl, rfl, by decide +kernel, rfl, by decide +kernel, by decide +kernel⟩
def b_is_there : Fr → Sto → RS := (sRet (vOr (m2 inM (mVar 1) (m1 (fldM "Ground" "held") (mVar 0))) (m2 inM (mVar 1) (m1 (fldM "Ground" "found") (mVar 0)))))
def p_is_there : List AV → M AV := pureM (runZ N_is_there.length b_is_there)
/-! no_holds -/
abbrev s_no_holds : Stmt := topS 61
def N_no_holds : List Str := ["paper", "letters", "clauses", "ground"]
theorem sc_no_holds : FnScope N_no_holds ["paper", "letters", "clauses"] (defScope s_no_holds) := ⟨rfl, rfl, rfl, by decide +kernel, rfl, by decide +kernel, by decide +kernel⟩
def b_no_holds : Fr → Sto → RS := (sSeq (sAsg (.nm 3) (mCallF 4 p_ground_of [] (mCons (mVar 1) (mCons (mVar 2) (mCons (mVar 0) (mCons (mC kt_WORDS) mNil))))))
  (sRet (vAnd (m2 notNM (mVar 3) (mC .non)) (mCallF 2 p_is_there [] (mCons (mVar 3) (mCons (mL tupM mNil) mNil))))))
def p_no_holds : List AV → M AV := pureM (runZ N_no_holds.length b_no_holds)
/-! are_clauses -/
abbrev s_are_clauses : Stmt := topS 51
def N_are_clauses : List Str := ["thing", "clause"]
theorem sc_are_clauses : FnScope N_are_clauses ["thing"] (defScope s_are_clauses) := ⟨rfl, rfl, rfl, by decide +kernel, rfl, by decide +kernel, by decide +kernel⟩
def b_are_clauses : Fr → Sto → RS := (sRet (vAnd (mL (isiA csL) (mCons (mVar 0) (mCons (mC (.ty "tuple")) mNil))) (mL allM (mCons (mComp [1] (.nm 1) (mIter (mVar 0)) mYes (mCallF 1 p_is_clause [] (mCons (mVar 1) mNil))) mNil))))
def p_are_clauses : List AV → M AV := pureM (runZ N_are_clauses.length b_are_clauses)
/-! is_entry -/
abbrev s_is_entry : Stmt := topS 52
def N_is_entry : List Str := ["thing"]
theorem sc_is_entry : FnScope N_is_entry ["thing"] (defScope s_is_entry) := ⟨rfl, rfl, rfl, by decide +kernel, rfl, by decide +kernel, by decide +kernel⟩
def b_is_entry : Fr → Sto → RS := (sRet (vAnd (mL (isiA csL) (mCons (mVar 0) (mCons (mC (.ty "tuple")) mNil))) (vAnd (m2 eq2M (mL lenM (mCons (mVar 0) mNil)) (mC (.int 2))) (vAnd (mCallF 1 p_is_lit [] (mCons (m2 ixM (mVar 0) (mC (.int 0))) mNil)) (mCallF 1 p_is_clause [] (mCons (m2 ixM (mVar 0) (mC (.int 1))) mNil))))))
def p_is_entry : List AV → M AV := pureM (runZ N_is_entry.length b_is_entry)
/-! small_holds -/
abbrev s_small_holds : Stmt := topS 62
def N_small_holds : List Str := ["paper", "letters", "clauses", "held", "tail", "ground", "entry"]
theorem sc_small_holds : FnScope N_small_holds ["paper", "letters", "clauses", "held", "tail"] (defScope s_small_holds) := ⟨rfl, rfl, rfl, by decide +kernel, rfl, by decide +kernel, by decide +kernel⟩
def b_small_holds : Fr → Sto → RS := (sSeq (sIf (bOr (bNot (mB (mCallF 1 p_are_clauses [] (mCons (mVar 3) mNil)))) (bOr (bNot (mB (mL (isiA csL) (mCons (mVar 4) (mCons (mC (.ty "tuple")) mNil))))) (bNot (mB (mL allM (mCons (mComp [6] (.nm 6) (mIter (mVar 4)) mYes (mCallF 1 p_is_entry [] (mCons (mVar 6) mNil))) mNil)))))) (sRet (mC (.bl false))) sNext)
  (sSeq (sAsg (.nm 5) (mCallF 4 p_ground_of [] (mCons (mVar 1) (mCons (mVar 2) (mCons (mVar 0) (mCons (mC kt_WORDS) mNil))))))
  (sRet (vAnd (m2 notNM (mVar 5) (mC .non)) (vAnd (m2 eq2M (mVar 3) (mL tupleM (mCons (mL sortTM (mCons (m1 (fldM "Ground" "held") (mVar 5)) mNil)) mNil))) (m2 eq2M (mVar 4) (mL tupleM (mCons (m1 (fldM "Ground" "tail") (mVar 5)) mNil))))))))
def p_small_holds : List AV → M AV := pureM (runZ N_small_holds.length b_small_holds)
/-! are_lits -/
abbrev s_are_lits : Stmt := topS 50
def N_are_lits : List Str := ["thing", "lit"]
theorem sc_are_lits : FnScope N_are_lits ["thing"] (defScope s_are_lits) := ⟨rfl, rfl, rfl, by decide +kernel, rfl, by decide +kernel, by decide +kernel⟩
def b_are_lits : Fr → Sto → RS := (sSeq (sIf (bOr (bNot (mB (mL (isiA csL) (mCons (mVar 0) (mCons (mC (.ty "tuple")) mNil))))) (bNot (mB (mL allM (mCons (mComp [1] (.nm 1) (mIter (mVar 0)) mYes (mCallF 1 p_is_lit [] (mCons (mVar 1) mNil))) mNil))))) (sRet (mC (.bl false))) sNext)
  (sRet (m2 eq2M (mLenSc [1] (.nm 1) (mIter (mVar 0)) mYes (mL absM (mCons (mVar 1) mNil))) (mL lenM (mCons (mVar 0) mNil)))))
def p_are_lits : List AV → M AV := pureM (runZ N_are_lits.length b_are_lits)
/-! never_holds -/
abbrev s_never_holds : Stmt := topS 63
def N_never_holds : List Str := ["paper", "letters", "clauses", "lits", "ground", "clause", "lit"]
theorem sc_never_holds : FnScope N_never_holds ["paper", "letters", "clauses", "lits"] (defScope s_never_holds) := ⟨rfl, rfl, rfl, by decide +kernel, rfl, by decide +kernel, by decide +kernel⟩
def b_never_holds : Fr → Sto → RS := (sSeq (sIf (bNot (mB (mCallF 1 p_are_lits [] (mCons (mVar 3) mNil)))) (sRet (mC (.bl false))) sNext)
  (sSeq (sAsg (.nm 4) (mCallF 4 p_ground_of [] (mCons (mVar 1) (mCons (mVar 2) (mCons (mVar 0) (mCons (mC kt_ADDED) mNil))))))
  (sSeq (sIf (mB (m2 isNM (mVar 4) (mC .non))) (sRet (mC (.bl false))) sNext)
  (sRet (mL anyM (mCons (mComp [5] (.nm 5) (mIter (mMeth "Ground" "all_there" 1 p_ground_all_there [] (mVar 4) mNil)) mYes (mL allM (mCons (mComp [6] (.nm 6) (mIter (mVar 5)) mYes (m2 inM (m2 subM (mC (.int 0)) (mVar 6)) (mVar 3))) mNil))) mNil))))))
def p_never_holds : List AV → M AV := pureM (runZ N_never_holds.length b_never_holds)
/-! alike_holds -/
abbrev s_alike_holds : Stmt := topS 64
def N_alike_holds : List Str := ["paper", "letters", "clauses", "others", "here", "there", "clause"]
theorem sc_alike_holds : FnScope N_alike_holds ["paper", "letters", "clauses", "others"] (defScope s_alike_holds) := ⟨rfl, rfl, rfl, by decide +kernel, rfl, by decide +kernel, by decide +kernel⟩
def b_alike_holds : Fr → Sto → RS := (sSeq (sIf (bOr (bNot (mB (mCallF 2 p_are_book [] (mCons (mVar 1) (mCons (mVar 3) mNil))))) (bOr (bNot (mB (mL (isiA csL) (mCons (mVar 0) (mCons (mC (.ty "tuple")) mNil))))) (mB (m2 ne2M (mL lenM (mCons (mVar 0) mNil)) (mC (.int 2)))))) (sRet (mC (.bl false))) sNext)
  (sSeq (sAsgG (gSet (.tp [4, 5])) (mL tupM (mCons (mCallF 4 p_ground_of [] (mCons (mVar 1) (mCons (mVar 2) (mCons (m2 ixM (mVar 0) (mC (.int 0))) (mCons (mC kt_ADDED) mNil))))) (mCons (mCallF 4 p_ground_of [] (mCons (mVar 1) (mCons (mVar 3) (mCons (m2 ixM (mVar 0) (mC (.int 1))) (mCons (mC kt_ADDED) mNil))))) mNil))))
  (sSeq (sIf (bOr (mB (m2 isNM (mVar 4) (mC .non))) (mB (m2 isNM (mVar 5) (mC .non)))) (sRet (mC (.bl false))) sNext)
  (sRet (mL allM (mCons (m2 catM (mComp [6] (.nm 6) (mIter (mVar 3)) mYes (mCallF 2 p_is_there [] (mCons (mVar 4) (mCons (mVar 6) mNil)))) (mComp [6] (.nm 6) (mIter (mVar 2)) mYes (mCallF 2 p_is_there [] (mCons (mVar 5) (mCons (mVar 6) mNil))))) mNil))))))
def p_alike_holds : List AV → M AV := pureM (runZ N_alike_holds.length b_alike_holds)
/-! are_numbers -/
abbrev s_are_numbers : Stmt := topS 53
def N_are_numbers : List Str := ["thing", "many", "number", "one", "other"]
theorem sc_are_numbers : FnScope N_are_numbers ["thing", "many"] (defScope s_are_numbers) := ⟨rfl, rfl, rfl, by decide +kernel, rfl, by decide +kernel, by decide +kernel⟩
def b_are_numbers : Fr → Sto → RS := (sSeq (sIf (bOr (bNot (mB (mL (isiA csL) (mCons (mVar 0) (mCons (mC (.ty "tuple")) mNil))))) (bNot (mB (mL allM (mCons (mComp [2] (.nm 2) (mIter (mVar 0)) mYes (vAnd (mCallF 1 p_is_whole [] (mCons (mVar 2) mNil)) (m3 leM ltM (mC (.int 0)) (mVar 2) (mVar 1)))) mNil))))) (sRet (mC (.bl false))) sNext)
  (sRet (mL allM (mCons (mComp [3, 4] (.tp [3, 4]) (mZip (mVar 0) (mSlice (mVar 0) (some (mC (.int 1))) none)) mYes (m2 ltM (mVar 3) (mVar 4))) mNil))))
def p_are_numbers : List AV → M AV := pureM (runZ N_are_numbers.length b_are_numbers)
/-! core_holds -/
abbrev s_core_holds : Stmt := topS 65
def N_core_holds : List Str := ["paper", "letters", "clauses", "numbers", "log", "settings", "some", "ground", "number", "at", "setting"]
theorem sc_core_holds : FnScope N_core_holds ["paper", "letters", "clauses", "numbers"] (defScope s_core_holds) := ⟨rfl, rfl, rfl, by decide +kernel, rfl, by decide +kernel, by decide +kernel⟩
def b_core_holds : Fr → Sto → RS := (sSeq (sIf (bOr (bNot (mB (mCallF 2 p_are_numbers [] (mCons (mVar 3) (mCons (mL lenM (mCons (mVar 2) mNil)) mNil))))) (bOr (bNot (mB (mL (isiA csL) (mCons (mVar 0) (mCons (mC (.ty "tuple")) mNil))))) (mB (m2 ne2M (mL lenM (mCons (mVar 0) mNil)) (mC (.int 2)))))) (sRet (mC (.bl false))) sNext)
  (sSeq (sAsgG (gSet (.tp [4, 5])) (mVar 0))
  (sSeq (sAsg (.nm 6) (mL tupleM (mCons (mComp [8] (.nm 8) (mIter (mVar 3)) mYes (m2 ixM (mVar 2) (mVar 8))) mNil)))
  (sSeq (sAsg (.nm 7) (mCallF 4 p_ground_of [] (mCons (mVar 1) (mCons (mVar 6) (mCons (mVar 4) (mCons (mC kt_ADDED) mNil))))))
  (sSeq (sIf (bOr (mB (m2 isNM (mVar 7) (mC .non))) (bOr (bNot (mB (mCallF 2 p_is_there [] (mCons (mVar 7) (mCons (mL tupM mNil) mNil))))) (bOr (bNot (mB (mL (isiA csL) (mCons (mVar 5) (mCons (mC (.ty "tuple")) mNil))))) (mB (m2 ne2M (mL lenM (mCons (mVar 5) mNil)) (mL lenM (mCons (mVar 6) mNil))))))) (sRet (mC (.bl false))) sNext)
  (sRet (mL allM (mCons (mComp [9, 10] (.tp [9, 10]) (mEnum (mVar 5)) mYes (mCallF 3 p_sets_all [] (mCons (mVar 1) (mCons (mVar 10) (mCons (m2 catM (mSlice (mVar 6) none (some (mVar 9))) (mSlice (mVar 6) (some (m2 catM (mVar 9) (mC (.int 1)))) none)) mNil))))) mNil))))))))
def p_core_holds : List AV → M AV := pureM (runZ N_core_holds.length b_core_holds)
/-! holds -/
abbrev s_holds : Stmt := topS 67
def N_holds : List Str := ["claim", "paper", "many", "judge"]
theorem sc_holds : FnScope N_holds ["claim", "paper"] (defScope s_holds) := ⟨rfl, rfl, rfl, by decide +kernel, rfl, by decide +kernel, by decide +kernel⟩
def fns_holds : Fns := [("yes_holds", p_yes_holds, 3), ("no_holds", p_no_holds, 3), ("small_holds", p_small_holds, 5), ("never_holds", p_never_holds, 4), ("alike_holds", p_alike_holds, 4), ("core_holds", p_core_holds, 4)]
def b_holds : Fr → Sto → RS := (sSeq (sIf (bOr (bNot (mB (mL (isiA csL) (mCons (mVar 0) (mCons (mC (.ty "tuple")) mNil))))) (bOr (mB (m2 eqEM (mVar 0) (mL tupM mNil))) (bOr (bNot (mB (mL (isiA csL) (mCons (m2 ixM (mVar 0) (mC (.int 0))) (mCons (mC (.ty "str")) mNil))))) (mB (m2 (notTabO "JUDGES" tab_JUDGES outsL) (m2 ixM (mVar 0) (mC (.int 0))) (mC (.glo "JUDGES"))))))) (sRet (mC (.bl false))) sNext)
  (sSeq (sAsgG (gSet (.tp [2, 3])) (m2 (ixTabM "JUDGES" tab_JUDGES) (mC (.glo "JUDGES")) (m2 ixM (mVar 0) (mC (.int 0)))))
  (sSeq (sIf (bOr (mB (m2 ne2M (mL lenM (mCons (mVar 0) mNil)) (mVar 2))) (bNot (mB (mCallF 2 p_are_book [] (mCons (m2 ixM (mVar 0) (mC (.int 1))) (mCons (m2 ixM (mVar 0) (mC (.int 2))) mNil)))))) (sRet (mC (.bl false))) sNext)
  (sSeq (sIf (mB (m2 eq2M (mVar 2) (mC (.int 3)))) (sRet (mCallG 3 fns_holds (mCons (mVar 1) (mCons (m2 ixM (mVar 0) (mC (.int 1))) (mCons (m2 ixM (mVar 0) (mC (.int 2))) mNil))))) sNext)
  (sSeq (sIf (mB (m2 eq2M (mVar 2) (mC (.int 4)))) (sRet (mCallG 3 fns_holds (mCons (mVar 1) (mCons (m2 ixM (mVar 0) (mC (.int 1))) (mCons (m2 ixM (mVar 0) (mC (.int 2))) (mCons (m2 ixM (mVar 0) (mC (.int 3))) mNil)))))) sNext)
  (sRet (mCallG 3 fns_holds (mCons (mVar 1) (mCons (m2 ixM (mVar 0) (mC (.int 1))) (mCons (m2 ixM (mVar 0) (mC (.int 2))) (mCons (m2 ixM (mVar 0) (mC (.int 3))) (mCons (m2 ixM (mVar 0) (mC (.int 4))) mNil))))))))))))
def p_holds : List AV → M AV := pureM (runZ N_holds.length b_holds)
/-! Book.__repr__ -/
abbrev s_book_repr : Stmt := inClass (topS 26) 6
def N_book_repr : List Str := ["self"]
theorem sc_book_repr : FnScope N_book_repr ["self"] (defScope s_book_repr) := ⟨rfl, rfl, rfl, by decide +kernel, rfl, by decide +kernel, by decide +kernel⟩
def b_book_repr : Fr → Sto → RS := (sRet (mJs [(mC (.str (Str.ofString "Book("))), (m1 fmtM (m1 (fldM "Book" "letters") (mVar 0))), (mC (.str (Str.ofString ", "))), (m1 fmtM (mL lenM (mCons (m1 (fldM "Book" "clauses") (mVar 0)) mNil))), (mC (.str (Str.ofString ")")))] Str.empty))
def p_book_repr : List AV → M AV := pureM (runZ N_book_repr.length b_book_repr)
/-! Standing.__repr__ -/
abbrev s_standing_repr : Stmt := inClass (topS 41) 3
def N_standing_repr : List Str := ["self"]
theorem sc_standing_repr : FnScope N_standing_repr ["self"] (defScope s_standing_repr) := ⟨rfl, rfl, rfl, by decide +kernel, rfl, by decide +kernel, by decide +kernel⟩
def b_standing_repr : Fr → Sto → RS := (sRet (mJs [(mC (.str (Str.ofString "Standing("))), (m1 fmtM (mL lenM (mCons (m1 (fldM "Standing" "held") (mVar 0)) mNil))), (mC (.str (Str.ofString ", "))), (m1 fmtM (mL lenM (mCons (m1 (fldM "Standing" "found") (mVar 0)) mNil))), (mC (.str (Str.ofString ", "))), (m1 fmtM (mL lenM (mCons (m1 (fldM "Standing" "tail") (mVar 0)) mNil))), (mC (.str (Str.ofString ")")))] Str.empty))
def p_standing_repr : List AV → M AV := pureM (runZ N_standing_repr.length b_standing_repr)
/-! Work.__str__ -/
abbrev s_work_str : Stmt := inClass (topS 72) 3
def N_work_str : List Str := ["self"]
theorem sc_work_str : FnScope N_work_str ["self"] (defScope s_work_str) := ⟨rfl, rfl, rfl, by decide +kernel, rfl, by decide +kernel, by decide +kernel⟩
def b_work_str : Fr → Sto → RS := (sRet (mJs [(mC (.str (Str.ofString "held "))), (m1 fmtM (mL lenM (mCons (m1 (fldM "Work" "held") (mVar 0)) mNil))), (mC (.str (Str.ofString " found "))), (m1 fmtM (mL lenM (mCons (m1 (fldM "Work" "found") (mVar 0)) mNil))), (mC (.str (Str.ofString " tail "))), (m1 fmtM (mL lenM (mCons (m1 (fldM "Work" "tail") (mVar 0)) mNil)))] Str.empty))
def p_work_str : List AV → M AV := pureM (runZ N_work_str.length b_work_str)
/-! Work.__repr__ -/
abbrev s_work_repr : Stmt := inClass (topS 72) 4
def N_work_repr : List Str := ["self"]
theorem sc_work_repr : FnScope N_work_repr ["self"] (defScope s_work_repr) := ⟨rfl, rfl, rfl, by decide +kernel, rfl, by decide +kernel, by decide +kernel⟩
def strsL : Eqs := [("Work", p_work_str)]
def b_work_repr : Fr → Sto → RS := (sRet (mJs [(mC (.str (Str.ofString "Work("))), (m1 fmtM (mL (strOM strsL) (mCons (mVar 0) mNil))), (mC (.str (Str.ofString ")")))] Str.empty))
def p_work_repr : List AV → M AV := pureM (runZ N_work_repr.length b_work_repr)
/-! law -/
abbrev s_law : Stmt := topS 81
def N_law : List Str := ["_law_script", "_law_good_here", "_law_things_here", "_law_k", "_law_purse_here", "_law_bad_here", "_law_claim_here", "_law_shown", "_law_turn", "_law_text", "_law_thing", "_law_one", "_law_two"]
theorem sc_law : FnScope N_law ["_law_script"] (defScope s_law) := ⟨rfl, rfl, rfl, by decide +kernel, rfl, by decide +kernel, by decide +kernel⟩
def repsL : Eqs := [("Book", p_book_repr), ("Standing", p_standing_repr), ("Work", p_work_repr)]
def b_law : Fr → Sto → RS := (sSeq (sAsgG (gSet (.tp [1, 2])) (mL tupM (mCons (mCallF 0 p_law_good [] mNil) (mCons (mCallF 0 p_law_things [] mNil) mNil))))
  (sSeq (sFor (.nm 3) (mRng mRange1 (mCons (mL max2M (mCons (mC (.int 2)) (mCons (mL min2M (mCons (mL lenM (mCons (mVar 0) mNil)) (mCons (mC (.int 3)) mNil))) mNil))) mNil)) (sSeq (sAsg (.nm 4) (mCallF 1 p_law_purse [] (mCons (mCallF 2 p_law_cell [] (mCons (mVar 0) (mCons (mVar 3) mNil))) mNil)))
  (sSeq (sAsg (.nm 5) (mComp [10] (.nm 10) (mIter (mVar 2)) mYes (mL lstM (mCons (mVar 10) (mCons (m2 ixM (mVar 2) (mCallF 2 p_law_pick [] (mCons (mVar 4) (mCons (mL lenM (mCons (mVar 2) mNil)) mNil)))) mNil)))))
  (sSeq (sFor (.tp [6, 7]) (mIter (mVar 1)) (sSeq (sFor (.nm 8) (mRng mRange1 (mCons (mC (.int 4)) mNil)) (sAsg (.nm 5) (m2 catN (mVar 5) (mCallF 4 p_law_bad [] (mCons (mVar 4) (mCons (mVar 6) (mCons (mVar 7) (mCons (mVar 2) mNil))))))))
  (sExp (mAppend (mVar 5) (mL lstM (mCons (mVar 7) (mCons (mVar 6) mNil)))))))
  (sSeq (sAsg (.nm 9) (mL (reprA repsL 8 30) (mCons (mL lstM (mCons (mVar 1) (mCons (mVar 5) mNil))) mNil)))
  (sSeq (sIf (bNot (mB (mL allM (mCons (mComp [11, 12] (.tp [11, 12]) (mIter (mVar 1)) mYes (m2 isBM (mCallF 2 p_holds [] (mCons (mVar 11) (mCons (mVar 12) mNil))) (mC (.bl true)))) mNil)))) (sRet (mC (.bl false))) sNext)
  (sSeq (sIf (bNot (mB (mL allM (mCons (mComp [11, 12] (.tp [11, 12]) (mIter (mVar 5)) mYes (m2 isBM (mCallF 2 p_holds [] (mCons (mVar 11) (mCons (mVar 12) mNil))) (mC (.bl false)))) mNil)))) (sRet (mC (.bl false))) sNext)
  (sIf (bOr (bNot (mB (mL allM (mCons (mComp [11, 12] (.tp [11, 12]) (mIter (mVar 1)) mYes (m2 isBM (mCallF 2 p_holds [] (mSw (mCons (mVar 12) (mCons (mVar 11) mNil)))) (mC (.bl true)))) mNil)))) (mB (m2 ne2M (mL (reprA repsL 8 30) (mCons (mL lstM (mCons (mVar 1) (mCons (mVar 5) mNil))) mNil)) (mVar 9)))) (sRet (mC (.bl false))) sNext))))))))
  (sRet (mC (.bl true)))))
def p_law : List AV → M AV := pureM (runZ N_law.length b_law)
/-! the defs as the head sees them -/
def D_law_good : He.DefD := ⟨("_law_good", none), "_law_good", "_law_good", defArgs s_law_good, defBody s_law_good, defScope s_law_good, [], []⟩
def D_is_whole : He.DefD := ⟨("is_whole", none), "is_whole", "is_whole", defArgs s_is_whole, defBody s_is_whole, defScope s_is_whole, [], []⟩
def D_is_lit : He.DefD := ⟨("is_lit", none), "is_lit", "is_lit", defArgs s_is_lit, defBody s_is_lit, defScope s_is_lit, [], []⟩
def D_is_clause : He.DefD := ⟨("is_clause", none), "is_clause", "is_clause", defArgs s_is_clause, defBody s_is_clause, defScope s_is_clause, [], []⟩
def D_is_own : He.DefD := ⟨("is_own", none), "is_own", "is_own", defArgs s_is_own, defBody s_is_own, defScope s_is_own, [], []⟩
def D_first_wrong : He.DefD := ⟨("first_wrong", none), "first_wrong", "first_wrong", defArgs s_first_wrong, defBody s_first_wrong, defScope s_first_wrong, [], [("twice", .bl false)]⟩
def D_book_init : He.DefD := ⟨("Book", some "__init__"), "__init__", "Book.__init__", defArgs s_book_init, defBody s_book_init, defScope s_book_init, [.adr (He.dflAt ("Book", some "__init__") 0)], []⟩
def D_check_book : He.DefD := ⟨("check_book", none), "check_book", "check_book", defArgs s_check_book, defBody s_check_book, defScope s_check_book, [], []⟩
def D_ground_init : He.DefD := ⟨("Ground", some "__init__"), "__init__", "Ground.__init__", defArgs s_ground_init, defBody s_ground_init, defScope s_ground_init, [], []⟩
def D_standing_init : He.DefD := ⟨("Standing", some "__init__"), "__init__", "Standing.__init__", defArgs s_standing_init, defBody s_standing_init, defScope s_standing_init, [], []⟩
def D_work_show : He.DefD := ⟨("Work", some "show"), "show", "Work.show", defArgs s_work_show, defBody s_work_show, defScope s_work_show, [], []⟩
def D_work_init : He.DefD := ⟨("Work", some "__init__"), "__init__", "Work.__init__", defArgs s_work_init, defBody s_work_init, defScope s_work_init, [], [("most", .int 4000)]⟩
def D_is_line : He.DefD := ⟨("is_line", none), "is_line", "is_line", defArgs s_is_line, defBody s_is_line, defScope s_is_line, [], []⟩
def D_greatest_letter : He.DefD := ⟨("greatest_letter", none), "greatest_letter", "greatest_letter", defArgs s_greatest_letter, defBody s_greatest_letter, defScope s_greatest_letter, [], []⟩
def D_ground_is_near : He.DefD := ⟨("Ground", some "is_near"), "is_near", "Ground.is_near", defArgs s_ground_is_near, defBody s_ground_is_near, defScope s_ground_is_near, [], []⟩
def D_walk : He.DefD := ⟨("walk", none), "walk", "walk", defArgs s_walk, defBody s_walk, defScope s_walk, [], []⟩
def D_come : He.DefD := ⟨("come", none), "come", "come", defArgs s_come, defBody s_come, defScope s_come, [], []⟩
def D_contraries : He.DefD := ⟨("contraries", none), "contraries", "contraries", defArgs s_contraries, defBody s_contraries, defScope s_contraries, [], []⟩
def D_follows_of : He.DefD := ⟨("follows_of", none), "follows_of", "follows_of", defArgs s_follows_of, defBody s_follows_of, defScope s_follows_of, [], []⟩
def D_ground_all_there : He.DefD := ⟨("Ground", some "all_there"), "all_there", "Ground.all_there", defArgs s_ground_all_there, defBody s_ground_all_there, defScope s_ground_all_there, [], []⟩
def D_ground_takes_add : He.DefD := ⟨("Ground", some "takes_add"), "takes_add", "Ground.takes_add", defArgs s_ground_takes_add, defBody s_ground_takes_add, defScope s_ground_takes_add, [], []⟩
def D_ground_takes_found : He.DefD := ⟨("Ground", some "takes_found"), "takes_found", "Ground.takes_found", defArgs s_ground_takes_found, defBody s_ground_takes_found, defScope s_ground_takes_found, [], []⟩
def D_ground_others : He.DefD := ⟨("Ground", some "others"), "others", "Ground.others", defArgs s_ground_others, defBody s_ground_others, defScope s_ground_others, [], []⟩
def D_ground_takes_drop : He.DefD := ⟨("Ground", some "takes_drop"), "takes_drop", "Ground.takes_drop", defArgs s_ground_takes_drop, defBody s_ground_takes_drop, defScope s_ground_takes_drop, [], []⟩
def D_made_of : He.DefD := ⟨("made_of", none), "made_of", "made_of", defArgs s_made_of, defBody s_made_of, defScope s_made_of, [], []⟩
def D_resolve : He.DefD := ⟨("resolve", none), "resolve", "resolve", defArgs s_resolve, defBody s_resolve, defScope s_resolve, [], []⟩
def D_made_with : He.DefD := ⟨("made_with", none), "made_with", "made_with", defArgs s_made_with, defBody s_made_with, defScope s_made_with, [], []⟩
def D_goes_by : He.DefD := ⟨("goes_by", none), "goes_by", "goes_by", defArgs s_goes_by, defBody s_goes_by, defScope s_goes_by, [], []⟩
def D_ground_takes_leave : He.DefD := ⟨("Ground", some "takes_leave"), "takes_leave", "Ground.takes_leave", defArgs s_ground_takes_leave, defBody s_ground_takes_leave, defScope s_ground_takes_leave, [], []⟩
def D_ground_is_clean : He.DefD := ⟨("Ground", some "is_clean"), "is_clean", "Ground.is_clean", defArgs s_ground_is_clean, defBody s_ground_is_clean, defScope s_ground_is_clean, [], []⟩
def D_ground_has_room : He.DefD := ⟨("Ground", some "has_room"), "has_room", "Ground.has_room", defArgs s_ground_has_room, defBody s_ground_has_room, defScope s_ground_has_room, [], []⟩
def D_ground_takes_put : He.DefD := ⟨("Ground", some "takes_put"), "takes_put", "Ground.takes_put", defArgs s_ground_takes_put, defBody s_ground_takes_put, defScope s_ground_takes_put, [], []⟩
def D_ground_takes_back : He.DefD := ⟨("Ground", some "takes_back"), "takes_back", "Ground.takes_back", defArgs s_ground_takes_back, defBody s_ground_takes_back, defScope s_ground_takes_back, [], []⟩
def D_ground_takes : He.DefD := ⟨("Ground", some "takes"), "takes", "Ground.takes", defArgs s_ground_takes, defBody s_ground_takes, defScope s_ground_takes, [], []⟩
def D_with_one : He.DefD := ⟨("with_one", none), "with_one", "with_one", defArgs s_with_one, defBody s_with_one, defScope s_with_one, [], []⟩
def D_without : He.DefD := ⟨("without", none), "without", "without", defArgs s_without, defBody s_without, defScope s_without, [], []⟩
def D_ground_hold : He.DefD := ⟨("Ground", some "hold"), "hold", "Ground.hold", defArgs s_ground_hold, defBody s_ground_hold, defScope s_ground_hold, [], []⟩
def D_ground_lose : He.DefD := ⟨("Ground", some "lose"), "lose", "Ground.lose", defArgs s_ground_lose, defBody s_ground_lose, defScope s_ground_lose, [], []⟩
def D_ground_do : He.DefD := ⟨("Ground", some "do"), "do", "Ground.do", defArgs s_ground_do, defBody s_ground_do, defScope s_ground_do, [], []⟩
def D_ground_by : He.DefD := ⟨("ground_by", none), "ground_by", "ground_by", defArgs s_ground_by, defBody s_ground_by, defScope s_ground_by, [], []⟩
def D_gone : He.DefD := ⟨("gone", none), "gone", "gone", defArgs s_gone, defBody s_gone, defScope s_gone, [], []⟩
def D_law_things : He.DefD := ⟨("_law_things", none), "_law_things", "_law_things", defArgs s_law_things, defBody s_law_things, defScope s_law_things, [], []⟩
def D_law_purse : He.DefD := ⟨("_law_purse", none), "_law_purse", "_law_purse", defArgs s_law_purse, defBody s_law_purse, defScope s_law_purse, [], []⟩
def D_law_cell : He.DefD := ⟨("_law_cell", none), "_law_cell", "_law_cell", defArgs s_law_cell, defBody s_law_cell, defScope s_law_cell, [], []⟩
def D_law_pick : He.DefD := ⟨("_law_pick", none), "_law_pick", "_law_pick", defArgs s_law_pick, defBody s_law_pick, defScope s_law_pick, [], []⟩
def D_law_is_fit : He.DefD := ⟨("_law_is_fit", none), "_law_is_fit", "_law_is_fit", defArgs s_law_is_fit, defBody s_law_is_fit, defScope s_law_is_fit, [], []⟩
def D_book_eq : He.DefD := ⟨("Book", some "__eq__"), "__eq__", "Book.__eq__", defArgs s_book_eq, defBody s_book_eq, defScope s_book_eq, [], []⟩
def D_standing_eq : He.DefD := ⟨("Standing", some "__eq__"), "__eq__", "Standing.__eq__", defArgs s_standing_eq, defBody s_standing_eq, defScope s_standing_eq, [], []⟩
def D_work_eq : He.DefD := ⟨("Work", some "__eq__"), "__eq__", "Work.__eq__", defArgs s_work_eq, defBody s_work_eq, defScope s_work_eq, [], []⟩
def D_law_bad : He.DefD := ⟨("_law_bad", none), "_law_bad", "_law_bad", defArgs s_law_bad, defBody s_law_bad, defScope s_law_bad, [], []⟩
def D_are_book : He.DefD := ⟨("are_book", none), "are_book", "are_book", defArgs s_are_book, defBody s_are_book, defScope s_are_book, [], []⟩
def D_is_set_so : He.DefD := ⟨("is_set_so", none), "is_set_so", "is_set_so", defArgs s_is_set_so, defBody s_is_set_so, defScope s_is_set_so, [], []⟩
def D_is_setting : He.DefD := ⟨("is_setting", none), "is_setting", "is_setting", defArgs s_is_setting, defBody s_is_setting, defScope s_is_setting, [], []⟩
def D_fits_by : He.DefD := ⟨("fits_by", none), "fits_by", "fits_by", defArgs s_fits_by, defBody s_fits_by, defScope s_fits_by, [], []⟩
def D_sets_all : He.DefD := ⟨("sets_all", none), "sets_all", "sets_all", defArgs s_sets_all, defBody s_sets_all, defScope s_sets_all, [], []⟩
def D_yes_holds : He.DefD := ⟨("yes_holds", none), "yes_holds", "yes_holds", defArgs s_yes_holds, defBody s_yes_holds, defScope s_yes_holds, [], []⟩
def D_ground_of : He.DefD := ⟨("ground_of", none), "ground_of", "ground_of", defArgs s_ground_of, defBody s_ground_of, defScope s_ground_of, [], []⟩
def D_is_there : He.DefD := ⟨("is_there", none), "is_there", "is_there", defArgs s_is_there, defBody s_is_there, defScope s_is_there, [], []⟩
def D_no_holds : He.DefD := ⟨("no_holds", none), "no_holds", "no_holds", defArgs s_no_holds, defBody s_no_holds, defScope s_no_holds, [], []⟩
def D_are_clauses : He.DefD := ⟨("are_clauses", none), "are_clauses", "are_clauses", defArgs s_are_clauses, defBody s_are_clauses, defScope s_are_clauses, [], []⟩
def D_is_entry : He.DefD := ⟨("is_entry", none), "is_entry", "is_entry", defArgs s_is_entry, defBody s_is_entry, defScope s_is_entry, [], []⟩
def D_small_holds : He.DefD := ⟨("small_holds", none), "small_holds", "small_holds", defArgs s_small_holds, defBody s_small_holds, defScope s_small_holds, [], []⟩
def D_are_lits : He.DefD := ⟨("are_lits", none), "are_lits", "are_lits", defArgs s_are_lits, defBody s_are_lits, defScope s_are_lits, [], []⟩
def D_never_holds : He.DefD := ⟨("never_holds", none), "never_holds", "never_holds", defArgs s_never_holds, defBody s_never_holds, defScope s_never_holds, [], []⟩
def D_alike_holds : He.DefD := ⟨("alike_holds", none), "alike_holds", "alike_holds", defArgs s_alike_holds, defBody s_alike_holds, defScope s_alike_holds, [], []⟩
def D_are_numbers : He.DefD := ⟨("are_numbers", none), "are_numbers", "are_numbers", defArgs s_are_numbers, defBody s_are_numbers, defScope s_are_numbers, [], []⟩
def D_core_holds : He.DefD := ⟨("core_holds", none), "core_holds", "core_holds", defArgs s_core_holds, defBody s_core_holds, defScope s_core_holds, [], []⟩
def D_holds : He.DefD := ⟨("holds", none), "holds", "holds", defArgs s_holds, defBody s_holds, defScope s_holds, [], []⟩
def D_book_repr : He.DefD := ⟨("Book", some "__repr__"), "__repr__", "Book.__repr__", defArgs s_book_repr, defBody s_book_repr, defScope s_book_repr, [], []⟩
def D_standing_repr : He.DefD := ⟨("Standing", some "__repr__"), "__repr__", "Standing.__repr__", defArgs s_standing_repr, defBody s_standing_repr, defScope s_standing_repr, [], []⟩
def D_work_str : He.DefD := ⟨("Work", some "__str__"), "__str__", "Work.__str__", defArgs s_work_str, defBody s_work_str, defScope s_work_str, [], []⟩
def D_work_repr : He.DefD := ⟨("Work", some "__repr__"), "__repr__", "Work.__repr__", defArgs s_work_repr, defBody s_work_repr, defScope s_work_repr, [], []⟩
def D_law : He.DefD := ⟨("law", none), "law", "law", defArgs s_law, defBody s_law, defScope s_law, [], []⟩
def hfn : List He.DefD := [D_law_good, D_is_whole, D_is_lit, D_is_clause, D_is_own, D_first_wrong, D_book_init, D_check_book, D_ground_init, D_standing_init, D_work_show, D_work_init, D_is_line, D_greatest_letter, D_ground_is_near, D_walk, D_come, D_contraries, D_follows_of, D_ground_all_there, D_ground_takes_add, D_ground_takes_found, D_ground_others, D_ground_takes_drop, D_made_of, D_resolve, D_made_with, D_goes_by, D_ground_takes_leave, D_ground_is_clean, D_ground_has_room, D_ground_takes_put, D_ground_takes_back, D_ground_takes, D_with_one, D_without, D_ground_hold, D_ground_lose, D_ground_do, D_ground_by, D_gone, D_law_things, D_law_purse, D_law_cell, D_law_pick, D_law_is_fit, D_book_eq, D_standing_eq, D_work_eq, D_law_bad, D_are_book, D_is_set_so, D_is_setting, D_fits_by, D_sets_all, D_yes_holds, D_ground_of, D_is_there, D_no_holds, D_are_clauses, D_is_entry, D_small_holds, D_are_lits, D_never_holds, D_alike_holds, D_are_numbers, D_core_holds, D_holds, D_book_repr, D_standing_repr, D_work_str, D_work_repr, D_law]
def hfa : List He.Fa := [.glo "ADDED", .glo "Book", .glo "Ground", .glo "JUDGES", .glo "OF_CLAUSE", .glo "Standing", .glo "WORDS", .glo "Work", .glo "_law_bad", .glo "_law_cell", .glo "_law_good", .glo "_law_is_fit", .glo "_law_pick", .glo "_law_purse", .glo "_law_things", .glo "alike_holds", .glo "are_book", .glo "are_clauses", .glo "are_lits", .glo "are_numbers", .glo "check_book", .glo "come", .glo "contraries", .glo "core_holds", .glo "first_wrong", .glo "fits_by", .glo "follows_of", .glo "goes_by", .glo "gone", .glo "greatest_letter", .glo "ground_by", .glo "ground_of", .glo "holds", .glo "is_clause", .glo "is_entry", .glo "is_line", .glo "is_lit", .glo "is_own", .glo "is_set_so", .glo "is_setting", .glo "is_there", .glo "is_whole", .glo "law", .glo "made_of", .glo "made_with", .glo "never_holds", .glo "no_holds", .glo "resolve", .glo "sets_all", .glo "small_holds", .glo "walk", .glo "with_one", .glo "without", .glo "yes_holds", .free "abs", .free "all", .free "any", .free "bool", .free "dict", .free "enumerate", .free "int", .free "isinstance", .free "len", .free "list", .free "max", .free "min", .free "range", .free "repr", .free "sorted", .free "str", .free "tuple", .free "zip", .int "MOST_LETTER" 40, .int "MOST_CLAUSES" 400, .int "MOST_LINES" 4000, .cls "Book", .mkr "Book", .cls "Ground", .mkr "Ground", .cls "Standing", .mkr "Standing", .cls "Work", .mkr "Work", .noat "Book" "clauses", .noat "Book" "letters", .noat "Ground" "book", .noat "Ground" "found", .noat "Ground" "held", .noat "Ground" "tail", .noat "Standing" "book", .noat "Standing" "found", .noat "Standing" "held", .noat "Standing" "tail", .noat "Work" "book", .noat "Work" "found", .noat "Work" "ground", .noat "Work" "held", .noat "Work" "log", .noat "Work" "most", .noat "Work" "tail", .meth "Work" "show", .meth "Ground" "is_near", .meth "Ground" "all_there", .meth "Ground" "takes_add", .meth "Ground" "takes_found", .meth "Ground" "others", .meth "Ground" "takes_drop", .meth "Ground" "takes_leave", .meth "Ground" "is_clean", .meth "Ground" "has_room", .meth "Ground" "takes_put", .meth "Ground" "takes_back", .meth "Ground" "takes", .meth "Ground" "hold", .meth "Ground" "lose", .meth "Ground" "do", .meth "Book" "__eq__", .meth "Standing" "__eq__", .meth "Work" "__eq__", .meth "Book" "__repr__", .meth "Standing" "__repr__", .meth "Work" "__str__", .meth "Work" "__repr__"]
def tupAB (K : PySem.W.Frag) (a : Addr) (vs : List V) : Bool := match K.lookup a with
  | some ⟨.type c, _, .seq its _, _⟩ => decide (c = "tuple") && (decide (its.size ≤ sizeLine) && He.relAll vs its.toList)
  | _ => false
theorem tupAB_ok {K : PySem.W.Frag} {a : Addr} {vs : List V} (h : tupAB K a vs = true) : KTup K a vs := by
  unfold tupAB at h
  split at h
  · rename_i c od its n sl e
    simp only [Bool.and_eq_true, decide_eq_true_eq] at h
    obtain ⟨rfl, h2, h3⟩ := h
    exact ⟨_, its, n, e, rfl, rfl, h2, He.relAll_ok h3⟩
  · cases h
/-- where a table holds a tuple -/
def tabAd (K : PySem.W.Frag) (x z : Str) : Addr := match PySem.W.nsIn K (He.ga K x) z with
  | some (some (.ref a)) => a
  | _ => 0
/-- what isinstance asks of the own classes -/
def insOB (K : PySem.W.Frag) (cs : List String) : Bool := He.eqO (PySem.W.specialIn K (.builtin "object.__class__") "__get__") (some (some (.builtin "getset_descriptor.__get__"))) && (decide (PySem.W.takesIn K (.builtin "object.__class__") = some true) && cs.all fun x =>
  He.eqO (PySem.W.findIn K (.ref (He.ga K (Str.ofString x))) "__class__") (some (some (.builtin "object.__class__"))) && (decide (PySem.W.mroIn K (He.ga K (Str.ofString x)) (.type "object") = some true) &&
  ((cs.all fun y => decide (PySem.W.kitOne K (.ref (He.ga K (Str.ofString x))) (.ref (He.ga K (Str.ofString y))) = some (decide (x = y)))) && ((baseTys.all fun T => decide (PySem.W.kitOne K (.type T) (.ref (He.ga K (Str.ofString x))) = some false)) &&
  (askTys.all fun T => decide (PySem.W.kitOne K (.ref (He.ga K (Str.ofString x))) (.type T) = some false))))))
theorem insOB_ok {X : Cx} {cs : List String} (hc : ∀ x ∈ cs, Cls X.K (He.ga X.K (Str.ofString x))) (h : insOB X.K cs = true) : InsOk X (Gm X.K) cs := ⟨fun x hx => by
  unfold insOB at h
  obtain ⟨h1, h⟩ := He.ba h
  obtain ⟨h2, h⟩ := He.ba h
  have h := List.all_eq_true.mp h x hx
  obtain ⟨h3, h⟩ := He.ba h
  obtain ⟨h4, h⟩ := He.ba h
  obtain ⟨h5, h⟩ := He.ba h
  obtain ⟨h6, h7⟩ := He.ba h
  have me := of_decide_eq_true (List.all_eq_true.mp h5 x hx)
  rw [decide_eq_true rfl] at me
  exact ⟨_, rfl, ⟨hc x hx, He.eqO_ok h3, He.eqO_ok h1, of_decide_eq_true h2, of_decide_eq_true h4, me⟩, fun y hy => ⟨_, rfl, of_decide_eq_true (List.all_eq_true.mp h5 y hy)⟩, fun T hT => of_decide_eq_true (List.all_eq_true.mp h6 T hT), fun T hT => of_decide_eq_true (List.all_eq_true.mp h7 T hT)⟩⟩
def outsB (K : PySem.W.Frag) (zs : List Str) : Bool := zs.all fun z => He.eqO (PySem.W.nsIn K (He.ga K "JUDGES") z) (some none)
/-- what != asks of the own classes -/
def eqsB (K : PySem.W.Frag) (cs : List String) : Bool := cs.all fun x => He.eqO (PySem.W.findIn K (.ref (He.ga K (Str.ofString x))) "__ne__") (some (some (.builtin "object.__ne__"))) && (decide (PySem.W.mroIn K (He.ga K (Str.ofString x)) (.type "object") = some true) && PySem.W.notFirst K (He.ga K (Str.ofString x)) (.type "str"))
theorem eqsB_ok {K : PySem.W.Frag} {cs : List String} (h : eqsB K cs = true) {x : String} (hx : x ∈ cs) : PySem.W.findIn K (.ref (He.ga K (Str.ofString x))) "__ne__" = some (some (.builtin "object.__ne__")) ∧ PySem.W.mroIn K (He.ga K (Str.ofString x)) (.type "object") = some true ∧ PySem.W.notFirst K (He.ga K (Str.ofString x)) (.type "str") = true := by
  have h := List.all_eq_true.mp h x hx
  obtain ⟨h1, h⟩ := He.ba h
  obtain ⟨h2, h3⟩ := He.ba h
  exact ⟨He.eqO_ok h1, of_decide_eq_true h2, h3⟩
/-- what the hook tells beside the defs and the facts -/
structure Fx (w : World) (K : PySem.W.Frag) (mg : Str → Option Value) : Prop where
  c : He.SaysD hfa hfn K
  g_ADDED : mg "ADDED" = some (.ref (He.ga K "ADDED"))
  g_Book : mg "Book" = some (.ref (He.ga K "Book"))
  g_Ground : mg "Ground" = some (.ref (He.ga K "Ground"))
  g_JUDGES : mg "JUDGES" = some (.ref (He.ga K "JUDGES"))
  g_OF_CLAUSE : mg "OF_CLAUSE" = some (.ref (He.ga K "OF_CLAUSE"))
  g_Standing : mg "Standing" = some (.ref (He.ga K "Standing"))
  g_WORDS : mg "WORDS" = some (.ref (He.ga K "WORDS"))
  g_Work : mg "Work" = some (.ref (He.ga K "Work"))
  g__law_bad : mg "_law_bad" = some (.ref (He.ga K "_law_bad"))
  g__law_cell : mg "_law_cell" = some (.ref (He.ga K "_law_cell"))
  g__law_good : mg "_law_good" = some (.ref (He.ga K "_law_good"))
  g__law_is_fit : mg "_law_is_fit" = some (.ref (He.ga K "_law_is_fit"))
  g__law_pick : mg "_law_pick" = some (.ref (He.ga K "_law_pick"))
  g__law_purse : mg "_law_purse" = some (.ref (He.ga K "_law_purse"))
  g__law_things : mg "_law_things" = some (.ref (He.ga K "_law_things"))
  g_alike_holds : mg "alike_holds" = some (.ref (He.ga K "alike_holds"))
  g_are_book : mg "are_book" = some (.ref (He.ga K "are_book"))
  g_are_clauses : mg "are_clauses" = some (.ref (He.ga K "are_clauses"))
  g_are_lits : mg "are_lits" = some (.ref (He.ga K "are_lits"))
  g_are_numbers : mg "are_numbers" = some (.ref (He.ga K "are_numbers"))
  g_check_book : mg "check_book" = some (.ref (He.ga K "check_book"))
  g_come : mg "come" = some (.ref (He.ga K "come"))
  g_contraries : mg "contraries" = some (.ref (He.ga K "contraries"))
  g_core_holds : mg "core_holds" = some (.ref (He.ga K "core_holds"))
  g_first_wrong : mg "first_wrong" = some (.ref (He.ga K "first_wrong"))
  g_fits_by : mg "fits_by" = some (.ref (He.ga K "fits_by"))
  g_follows_of : mg "follows_of" = some (.ref (He.ga K "follows_of"))
  g_goes_by : mg "goes_by" = some (.ref (He.ga K "goes_by"))
  g_gone : mg "gone" = some (.ref (He.ga K "gone"))
  g_greatest_letter : mg "greatest_letter" = some (.ref (He.ga K "greatest_letter"))
  g_ground_by : mg "ground_by" = some (.ref (He.ga K "ground_by"))
  g_ground_of : mg "ground_of" = some (.ref (He.ga K "ground_of"))
  g_holds : mg "holds" = some (.ref (He.ga K "holds"))
  g_is_clause : mg "is_clause" = some (.ref (He.ga K "is_clause"))
  g_is_entry : mg "is_entry" = some (.ref (He.ga K "is_entry"))
  g_is_line : mg "is_line" = some (.ref (He.ga K "is_line"))
  g_is_lit : mg "is_lit" = some (.ref (He.ga K "is_lit"))
  g_is_own : mg "is_own" = some (.ref (He.ga K "is_own"))
  g_is_set_so : mg "is_set_so" = some (.ref (He.ga K "is_set_so"))
  g_is_setting : mg "is_setting" = some (.ref (He.ga K "is_setting"))
  g_is_there : mg "is_there" = some (.ref (He.ga K "is_there"))
  g_is_whole : mg "is_whole" = some (.ref (He.ga K "is_whole"))
  g_law : mg "law" = some (.ref (He.ga K "law"))
  g_made_of : mg "made_of" = some (.ref (He.ga K "made_of"))
  g_made_with : mg "made_with" = some (.ref (He.ga K "made_with"))
  g_never_holds : mg "never_holds" = some (.ref (He.ga K "never_holds"))
  g_no_holds : mg "no_holds" = some (.ref (He.ga K "no_holds"))
  g_resolve : mg "resolve" = some (.ref (He.ga K "resolve"))
  g_sets_all : mg "sets_all" = some (.ref (He.ga K "sets_all"))
  g_small_holds : mg "small_holds" = some (.ref (He.ga K "small_holds"))
  g_walk : mg "walk" = some (.ref (He.ga K "walk"))
  g_with_one : mg "with_one" = some (.ref (He.ga K "with_one"))
  g_without : mg "without" = some (.ref (He.ga K "without"))
  g_yes_holds : mg "yes_holds" = some (.ref (He.ga K "yes_holds"))
  f_abs : mg "abs" = none
  f_all : mg "all" = none
  f_any : mg "any" = none
  f_bool : mg "bool" = none
  f_dict : mg "dict" = none
  f_enumerate : mg "enumerate" = none
  f_int : mg "int" = none
  f_isinstance : mg "isinstance" = none
  f_len : mg "len" = none
  f_list : mg "list" = none
  f_max : mg "max" = none
  f_min : mg "min" = none
  f_range : mg "range" = none
  f_repr : mg "repr" = none
  f_sorted : mg "sorted" = none
  f_str : mg "str" = none
  f_tuple : mg "tuple" = none
  f_zip : mg "zip" = none
  i_MOST_LETTER : ∃ t, mg "MOST_LETTER" = some (.int 40 t)
  i_MOST_CLAUSES : ∃ t, mg "MOST_CLAUSES" = some (.int 400 t)
  i_MOST_LINES : ∃ t, mg "MOST_LINES" = some (.int 4000 t)
  c_Book : Cls K (He.ga K "Book")
  mk_Book : Mk K (He.ga K "Book") (He.ma K (He.ga K "Book") "__init__")
  c_Ground : Cls K (He.ga K "Ground")
  mk_Ground : Mk K (He.ga K "Ground") (He.ma K (He.ga K "Ground") "__init__")
  c_Standing : Cls K (He.ga K "Standing")
  mk_Standing : Mk K (He.ga K "Standing") (He.ma K (He.ga K "Standing") "__init__")
  c_Work : Cls K (He.ga K "Work")
  mk_Work : Mk K (He.ga K "Work") (He.ma K (He.ga K "Work") "__init__")
  n_Book_clauses : NoAttr K (He.ga K "Book") (Str.ofString "clauses")
  n_Book_letters : NoAttr K (He.ga K "Book") (Str.ofString "letters")
  n_Ground_book : NoAttr K (He.ga K "Ground") (Str.ofString "book")
  n_Ground_found : NoAttr K (He.ga K "Ground") (Str.ofString "found")
  n_Ground_held : NoAttr K (He.ga K "Ground") (Str.ofString "held")
  n_Ground_tail : NoAttr K (He.ga K "Ground") (Str.ofString "tail")
  n_Standing_book : NoAttr K (He.ga K "Standing") (Str.ofString "book")
  n_Standing_found : NoAttr K (He.ga K "Standing") (Str.ofString "found")
  n_Standing_held : NoAttr K (He.ga K "Standing") (Str.ofString "held")
  n_Standing_tail : NoAttr K (He.ga K "Standing") (Str.ofString "tail")
  n_Work_book : NoAttr K (He.ga K "Work") (Str.ofString "book")
  n_Work_found : NoAttr K (He.ga K "Work") (Str.ofString "found")
  n_Work_ground : NoAttr K (He.ga K "Work") (Str.ofString "ground")
  n_Work_held : NoAttr K (He.ga K "Work") (Str.ofString "held")
  n_Work_log : NoAttr K (He.ga K "Work") (Str.ofString "log")
  n_Work_most : NoAttr K (He.ga K "Work") (Str.ofString "most")
  n_Work_tail : NoAttr K (He.ga K "Work") (Str.ofString "tail")
  m_Work_show : Meth K (He.ga K "Work") "show" (He.ma K (He.ga K "Work") "show")
  m_Ground_is_near : Meth K (He.ga K "Ground") "is_near" (He.ma K (He.ga K "Ground") "is_near")
  m_Ground_all_there : Meth K (He.ga K "Ground") "all_there" (He.ma K (He.ga K "Ground") "all_there")
  m_Ground_takes_add : Meth K (He.ga K "Ground") "takes_add" (He.ma K (He.ga K "Ground") "takes_add")
  m_Ground_takes_found : Meth K (He.ga K "Ground") "takes_found" (He.ma K (He.ga K "Ground") "takes_found")
  m_Ground_others : Meth K (He.ga K "Ground") "others" (He.ma K (He.ga K "Ground") "others")
  m_Ground_takes_drop : Meth K (He.ga K "Ground") "takes_drop" (He.ma K (He.ga K "Ground") "takes_drop")
  m_Ground_takes_leave : Meth K (He.ga K "Ground") "takes_leave" (He.ma K (He.ga K "Ground") "takes_leave")
  m_Ground_is_clean : Meth K (He.ga K "Ground") "is_clean" (He.ma K (He.ga K "Ground") "is_clean")
  m_Ground_has_room : Meth K (He.ga K "Ground") "has_room" (He.ma K (He.ga K "Ground") "has_room")
  m_Ground_takes_put : Meth K (He.ga K "Ground") "takes_put" (He.ma K (He.ga K "Ground") "takes_put")
  m_Ground_takes_back : Meth K (He.ga K "Ground") "takes_back" (He.ma K (He.ga K "Ground") "takes_back")
  m_Ground_takes : Meth K (He.ga K "Ground") "takes" (He.ma K (He.ga K "Ground") "takes")
  m_Ground_hold : Meth K (He.ga K "Ground") "hold" (He.ma K (He.ga K "Ground") "hold")
  m_Ground_lose : Meth K (He.ga K "Ground") "lose" (He.ma K (He.ga K "Ground") "lose")
  m_Ground_do : Meth K (He.ga K "Ground") "do" (He.ma K (He.ga K "Ground") "do")
  m_Book___eq__ : Meth K (He.ga K "Book") "__eq__" (He.ma K (He.ga K "Book") "__eq__")
  m_Standing___eq__ : Meth K (He.ga K "Standing") "__eq__" (He.ma K (He.ga K "Standing") "__eq__")
  m_Work___eq__ : Meth K (He.ga K "Work") "__eq__" (He.ma K (He.ga K "Work") "__eq__")
  m_Book___repr__ : Meth K (He.ga K "Book") "__repr__" (He.ma K (He.ga K "Book") "__repr__")
  m_Standing___repr__ : Meth K (He.ga K "Standing") "__repr__" (He.ma K (He.ga K "Standing") "__repr__")
  m_Work___str__ : Meth K (He.ga K "Work") "__str__" (He.ma K (He.ga K "Work") "__str__")
  m_Work___repr__ : Meth K (He.ga K "Work") "__repr__" (He.ma K (He.ga K "Work") "__repr__")
  t_OF_CLAUSE : KTup K (He.ga K "OF_CLAUSE") [V.str (Str.ofString "add"), V.str (Str.ofString "keep"), V.str (Str.ofString "forget"), V.str (Str.ofString "drop"), V.str (Str.ofString "put")]
  t_ADDED : KTup K (He.ga K "ADDED") [V.str (Str.ofString "add")]
  t_WORDS : KTup K (He.ga K "WORDS") [V.str (Str.ofString "add"), V.str (Str.ofString "keep"), V.str (Str.ofString "forget"), V.str (Str.ofString "drop"), V.str (Str.ofString "leave"), V.str (Str.ofString "back")]
  ta_JUDGES_yes : PySem.W.nsIn K (He.ga K "JUDGES") (Str.ofString "yes") = some (some (.ref (tabAd K "JUDGES" (Str.ofString "yes"))))
  tt_JUDGES_yes : KTup K (tabAd K "JUDGES" (Str.ofString "yes")) [V.int 3, V.ref (He.ga K "yes_holds")]
  ta_JUDGES_no : PySem.W.nsIn K (He.ga K "JUDGES") (Str.ofString "no") = some (some (.ref (tabAd K "JUDGES" (Str.ofString "no"))))
  tt_JUDGES_no : KTup K (tabAd K "JUDGES" (Str.ofString "no")) [V.int 3, V.ref (He.ga K "no_holds")]
  ta_JUDGES_small : PySem.W.nsIn K (He.ga K "JUDGES") (Str.ofString "small") = some (some (.ref (tabAd K "JUDGES" (Str.ofString "small"))))
  tt_JUDGES_small : KTup K (tabAd K "JUDGES" (Str.ofString "small")) [V.int 5, V.ref (He.ga K "small_holds")]
  ta_JUDGES_never : PySem.W.nsIn K (He.ga K "JUDGES") (Str.ofString "never") = some (some (.ref (tabAd K "JUDGES" (Str.ofString "never"))))
  tt_JUDGES_never : KTup K (tabAd K "JUDGES" (Str.ofString "never")) [V.int 4, V.ref (He.ga K "never_holds")]
  ta_JUDGES_alike : PySem.W.nsIn K (He.ga K "JUDGES") (Str.ofString "alike") = some (some (.ref (tabAd K "JUDGES" (Str.ofString "alike"))))
  tt_JUDGES_alike : KTup K (tabAd K "JUDGES" (Str.ofString "alike")) [V.int 4, V.ref (He.ga K "alike_holds")]
  ta_JUDGES_core : PySem.W.nsIn K (He.ga K "JUDGES") (Str.ofString "core") = some (some (.ref (tabAd K "JUDGES" (Str.ofString "core"))))
  tt_JUDGES_core : KTup K (tabAd K "JUDGES" (Str.ofString "core")) [V.int 4, V.ref (He.ga K "core_holds")]
  own : insOB K csL = true
  out : outsB K outsL = true
  owe : eqsB K csL = true
  td_JUDGES : ∃ es n, KDict K w (He.ga K "JUDGES") es n
theorem Fx.k_OF_CLAUSE {w : World} {K : PySem.W.Frag} {mg : Str → Option Value} (x : Fx w K mg) {ρ : Rho} {H : Hp} : VR ⟨K, Gm K⟩ ρ H kt_OF_CLAUSE (.ref (He.ga K "OF_CLAUSE")) := .ktup x.t_OF_CLAUSE (.cons (.str _) (.cons (.str _) (.cons (.str _) (.cons (.str _) (.cons (.str _) .nil)))))
theorem Fx.k_ADDED {w : World} {K : PySem.W.Frag} {mg : Str → Option Value} (x : Fx w K mg) {ρ : Rho} {H : Hp} : VR ⟨K, Gm K⟩ ρ H kt_ADDED (.ref (He.ga K "ADDED")) := .ktup x.t_ADDED (.cons (.str _) .nil)
theorem Fx.k_WORDS {w : World} {K : PySem.W.Frag} {mg : Str → Option Value} (x : Fx w K mg) {ρ : Rho} {H : Hp} : VR ⟨K, Gm K⟩ ρ H kt_WORDS (.ref (He.ga K "WORDS")) := .ktup x.t_WORDS (.cons (.str _) (.cons (.str _) (.cons (.str _) (.cons (.str _) (.cons (.str _) (.cons (.str _) .nil))))))
theorem Fx.tab_JUDGES {w : World} {K : PySem.W.Frag} {mg : Str → Option Value} (x : Fx w K mg) {X : Cx} (h1 : X.K = K) (h2 : X.w = w) : TabOk X (Gm K) "JUDGES" (He.ga K "JUDGES") tab_JUDGES := by
  subst h1 h2
  refine ⟨rfl, x.td_JUDGES, fun q hq => ?_⟩
  simp only [_root_.MM.tab_JUDGES, List.mem_cons, List.not_mem_nil, or_false] at hq
  rcases hq with rfl | rfl | rfl | rfl | rfl | rfl
  · exact ⟨_, .ref _, x.ta_JUDGES_yes, rfl, fun _ _ => .ktup x.tt_JUDGES_yes (.cons (.int _) (.cons (.glo rfl) .nil))⟩
  · exact ⟨_, .ref _, x.ta_JUDGES_no, rfl, fun _ _ => .ktup x.tt_JUDGES_no (.cons (.int _) (.cons (.glo rfl) .nil))⟩
  · exact ⟨_, .ref _, x.ta_JUDGES_small, rfl, fun _ _ => .ktup x.tt_JUDGES_small (.cons (.int _) (.cons (.glo rfl) .nil))⟩
  · exact ⟨_, .ref _, x.ta_JUDGES_never, rfl, fun _ _ => .ktup x.tt_JUDGES_never (.cons (.int _) (.cons (.glo rfl) .nil))⟩
  · exact ⟨_, .ref _, x.ta_JUDGES_alike, rfl, fun _ _ => .ktup x.tt_JUDGES_alike (.cons (.int _) (.cons (.glo rfl) .nil))⟩
  · exact ⟨_, .ref _, x.ta_JUDGES_core, rfl, fun _ _ => .ktup x.tt_JUDGES_core (.cons (.int _) (.cons (.glo rfl) .nil))⟩
theorem Fx.ins {w : World} {K : PySem.W.Frag} {mg : Str → Option Value} (x : Fx w K mg) {X : Cx} (h : X.K = K) : InsOk X (Gm K) csL := by
  subst h
  refine insOB_ok (fun y hy => ?_) x.own
  simp only [csL, List.mem_cons, List.not_mem_nil, or_false] at hy
  rcases hy with rfl | rfl | rfl
  · exact x.c_Book
  · exact x.c_Standing
  · exact x.c_Work
theorem Fx.outz {w : World} {K : PySem.W.Frag} {mg : Str → Option Value} (x : Fx w K mg) {X : Cx} (h : X.K = K) : ∀ z ∈ outsL, PySem.W.nsIn X.K (He.ga X.K "JUDGES") z = some none := by
  subst h
  exact fun z hz => He.eqO_ok (List.all_eq_true.mp x.out z hz)
/-- what a def without defaults promises -/
def Okf (P : Program) (w : World) (K : PySem.W.Frag) (mg : Str → Option Value) (base : Heap) (k : Nat) (f : Addr) (ps : List Str) (n : Nat) (pf : List AV → M AV) : Prop :=
  ∃ fd, FnOk P w K mg base CX0 k f fd ps (spM ⟨K, Gm K⟩ n pf) ∧ PySem.W.keepIn K (.ref f) = true ∧ Binds K fd ps []
/-- with defaults -/
def Okd (P : Program) (w : World) (K : PySem.W.Frag) (mg : Str → Option Value) (base : Heap) (k : Nat) (f : Addr) (ps : List Str) (n : Nat) (pf : List AV → M AV) (dvs : List V) : Prop :=
  ∃ fd ds, FnOk P w K mg base CX0 k f fd ps (spM ⟨K, Gm K⟩ n pf) ∧ PySem.W.keepIn K (.ref f) = true ∧ Binds K fd ps ds ∧ Vals dvs ds
/-- called by keywords, too -/
def Okk (P : Program) (w : World) (K : PySem.W.Frag) (mg : Str → Option Value) (base : Heap) (k : Nat) (f : Addr) (ps : List Str) (n : Nat) (pf : List AV → M AV) : Prop :=
  ∃ fd, FnOk P w K mg base CX0 k f fd ps (spM ⟨K, Gm K⟩ n pf) ∧ PySem.W.keepIn K (.ref f) = true ∧ Binds K fd ps [] ∧ KBn K fd ps 0 (sw ps) (fun _ ws => sw ws) (fun _ zs => sw zs)
section
variable {P : Program} {w : World} {K : PySem.W.Frag} {mg : Str → Option Value} {base : Heap}
end
end MM
set_option Elab.async false
set_option linter.all false
set_option maxRecDepth 100000
set_option maxHeartbeats 0
namespace MM
open PySem PySem.Spec PyProof.Rows L2
section
variable {P : Program} {w : World} {K : PySem.W.Frag} {mg : Str → Option Value} {base : Heap}
theorem ok_law_good (x : Fx w K mg) : Okf P w K mg base 1 (He.fAd K D_law_good.at_) [] 0 p_law_good := by
  obtain ⟨fd, F⟩ := x.c.def_ 0 (d := D_law_good) rfl
  refine ⟨fd, F.ok (k := 0) sc_law_good (fun vs H Q E h => h.1) (fun cdv A outer s H vs Q E hr h => ⟨tMs ⟨K, Gm K⟩ (EW E) b_law_good, PSs.nox ?_, runZ_ok (N := N_law_good) h⟩), F.kp, F.bindsN fun _ _ _ _ _ _ us hl => match us, hl with | [], _ => rfl⟩
  exact (mss_cons (ms_asgG (me_tup (ma_cons (me_tup (ma_cons (me_tup (ma_cons me_int (ma_cons me_int ma_nil))) (ma_cons (me_tup (ma_cons (me_un un_neg o_neg me_int) (ma_cons me_int ma_nil))) ma_nil))) (ma_cons (me_tup (ma_cons (me_tup (ma_cons me_int ma_nil)) (ma_cons (me_tup (ma_cons (me_un un_neg o_neg me_int) ma_nil)) ma_nil))) ma_nil))) (mg_set (tt := (.tp [0, 1])) (pg_tp rfl (pgs_cons (pg_name (i := 0) sc_law_good.nd rfl (.inl rfl)) (pgs_cons (pg_name (i := 1) sc_law_good.nd rfl (.inl rfl)) pgs_nil)))))
  (mss_cons (ms_set (i := 2) sc_law_good.nd rfl (.inl rfl) (me_tup (ma_cons (me_tup (ma_cons me_str (ma_cons (me_tup (ma_cons me_int ma_nil)) ma_nil))) (ma_cons (me_tup (ma_cons me_str (ma_cons (me_tup (ma_cons me_int ma_nil)) ma_nil))) (ma_cons (me_tup (ma_cons me_str (ma_cons (me_tup (ma_cons me_int (ma_cons me_int ma_nil))) ma_nil))) (ma_cons (me_tup (ma_cons me_str (ma_cons (me_tup (ma_cons (me_un un_neg o_neg me_int) (ma_cons me_int ma_nil))) ma_nil))) (ma_cons (me_tup (ma_cons me_str (ma_cons (me_tup (ma_cons me_int ma_nil)) (ma_cons me_int ma_nil)))) ma_nil)))))))
  (mss_cons (ms_set (i := 3) sc_law_good.nd rfl (.inl rfl) (me_lst (ma_cons (me_lst (ma_cons (me_tup (ma_cons me_str (ma_cons me_int (ma_cons (me_v (pv 0)) ma_nil)))) (ma_cons (me_tup (ma_cons (me_un un_neg o_neg me_int) (ma_cons me_int ma_nil))) ma_nil))) (ma_cons (me_lst (ma_cons (me_tup (ma_cons me_str (ma_cons me_int (ma_cons (me_v (pv 1)) ma_nil)))) (ma_cons (me_tup (ma_cons (me_tup (ma_cons me_str (ma_cons (me_tup ma_nil) ma_nil))) ma_nil)) ma_nil))) (ma_cons (me_lst (ma_cons (me_tup (ma_cons me_str (ma_cons me_int (ma_cons (me_tup ma_nil) ma_nil)))) (ma_cons (me_tup ma_nil) ma_nil))) ma_nil)))))
  (mss_cons (ms_set (i := 3) sc_law_good.nd rfl (.inl rfl) (me_catN (me_v (pv 3)) (me_lst (ma_cons (me_lst (ma_cons (me_tup (ma_cons me_str (ma_cons me_int (ma_cons (me_v (pv 0)) (ma_cons (me_tup ma_nil) (ma_cons (me_tup (ma_cons (me_tup (ma_cons me_int (ma_cons (me_tup (ma_cons me_int ma_nil)) ma_nil))) ma_nil)) ma_nil)))))) (ma_cons (me_v (pv 2)) ma_nil))) (ma_cons (me_lst (ma_cons (me_tup (ma_cons me_str (ma_cons me_int (ma_cons (me_v (pv 0)) (ma_cons (me_tup (ma_cons (me_un un_neg o_neg me_int) ma_nil)) ma_nil))))) (ma_cons (me_tup (ma_cons (me_tup (ma_cons me_str (ma_cons (me_tup (ma_cons me_int ma_nil)) ma_nil))) ma_nil)) ma_nil))) ma_nil)))))
  (mss_cons (ms_exp (me_append (me_v (pv 3)) (me_lst (ma_cons (me_tup (ma_cons me_str (ma_cons me_int (ma_cons (me_v (pv 0)) (ma_cons (me_tup (ma_cons (me_tup (ma_cons me_int ma_nil)) ma_nil)) ma_nil))))) (ma_cons (me_tup (ma_cons (me_tup (ma_cons (me_tup (ma_cons me_str (ma_cons (me_tup (ma_cons me_int ma_nil)) ma_nil))) ma_nil)) (ma_cons (me_tup (ma_cons (me_tup (ma_cons me_str (ma_cons (me_tup (ma_cons me_int (ma_cons me_int ma_nil))) ma_nil))) (ma_cons (me_tup (ma_cons me_str (ma_cons (me_tup (ma_cons (me_un un_neg o_neg me_int) (ma_cons me_int ma_nil))) ma_nil))) ma_nil))) ma_nil))) ma_nil)))))
  (mss_one (ms_ret (me_cat (me_v (pv 3)) (me_lst (ma_cons (me_lst (ma_cons (me_tup (ma_cons me_str (ma_cons me_int (ma_cons (me_v (pv 1)) (ma_cons (me_tup (ma_cons me_int (ma_cons me_int ma_nil))) ma_nil))))) (ma_cons (me_tup (ma_cons (me_tup (ma_cons (me_tup (ma_cons me_str (ma_cons (me_tup ma_nil) ma_nil))) ma_nil)) (ma_cons (me_tup (ma_cons (me_tup (ma_cons (me_un un_neg o_neg me_int) ma_nil)) (ma_cons (me_tup (ma_cons me_int ma_nil)) ma_nil))) ma_nil))) ma_nil))) ma_nil))))))))))
theorem ok_is_whole (x : Fx w K mg) : Okf P w K mg base 1 (He.fAd K D_is_whole.at_) ["thing"] 1 p_is_whole := by
  obtain ⟨fd, F⟩ := x.c.def_ 1 (d := D_is_whole) rfl
  refine ⟨fd, F.ok (k := 0) sc_is_whole (fun vs H Q E h => h.1) (fun cdv A outer s H vs Q E hr h => ⟨tMs ⟨K, Gm K⟩ (EW E) b_is_whole, PSs.nox ?_, runZ_ok (N := N_is_whole) h⟩), F.kp, F.bindsN fun _ _ _ _ _ _ us hl => match us, hl with | [_], _ => rfl⟩
  exact (mss_one (ms_ret (me_and (me_callB call_isiA (ol_isiA (x.ins rfl)) x.f_isinstance bt_isinstance (ma_cons (me_v (pv 0)) (ma_cons (me_ty x.f_int bt_int) ma_nil))) (me_one (me_not (me_callB call_isiA (ol_isiA (x.ins rfl)) x.f_isinstance bt_isinstance (ma_cons (me_v (pv 0)) (ma_cons (me_ty x.f_bool bt_bool) ma_nil))))))))
theorem ok_is_lit (x : Fx w K mg) : Okf P w K mg base 2 (He.fAd K D_is_lit.at_) ["thing"] 1 p_is_lit := by
  obtain ⟨fd, F⟩ := x.c.def_ 2 (d := D_is_lit) rfl
  obtain ⟨fd_is_whole, F_is_whole, k_is_whole, b_is_whole⟩ := ok_is_whole (P := P) (base := base) x
  have v_is_whole : Vals [] [] := .nil
  obtain ⟨t_MOST_LETTER, i_MOST_LETTER⟩ := x.i_MOST_LETTER
  refine ⟨fd, F.ok (k := 1) sc_is_lit (fun vs H Q E h => h.1) (fun cdv A outer s H vs Q E hr h => ⟨tMs ⟨K, Gm K⟩ (EW E) b_is_lit, PSs.nox ?_, runZ_ok (N := N_is_lit) h⟩), F.kp, F.bindsN fun _ _ _ _ _ _ us hl => match us, hl with | [_], _ => rfl⟩
  exact (mss_one (ms_ret (me_and (me_call (F_is_whole.mono (by decide)) hr rfl x.g_is_whole k_is_whole b_is_whole v_is_whole (fun _ _ => .nil) pz (ma_cons (me_v (pv 0)) ma_nil)) (me_one (me_chain op_le op_le o_le o_le me_int (me_callB call_abs ol_abs x.f_abs bt_abs (ma_cons (me_v (pv 0)) ma_nil)) (me_glob (av := .int 40) (v := .int _) i_MOST_LETTER ⟨_, rfl⟩ fun _ _ => .int _))))))
theorem ok_is_clause (x : Fx w K mg) : Okf P w K mg base 3 (He.fAd K D_is_clause.at_) ["thing"] 1 p_is_clause := by
  obtain ⟨fd, F⟩ := x.c.def_ 3 (d := D_is_clause) rfl
  obtain ⟨fd_is_lit, F_is_lit, k_is_lit, b_is_lit⟩ := ok_is_lit (P := P) (base := base) x
  have v_is_lit : Vals [] [] := .nil
  refine ⟨fd, F.ok (k := 2) sc_is_clause (fun vs H Q E h => h.1) (fun cdv A outer s H vs Q E hr h => ⟨tMs ⟨K, Gm K⟩ (EW E) b_is_clause, PSs.nox ?_, runZ_ok (N := N_is_clause) h⟩), F.kp, F.bindsN fun _ _ _ _ _ _ us hl => match us, hl with | [_], _ => rfl⟩
  exact (mss_cons (ms_if (mt_w (mw_or (mt_not (mt_val (me_callB call_isiA (ol_isiA (x.ins rfl)) x.f_isinstance bt_isinstance (ma_cons (me_v (pv 0)) (ma_cons (me_ty x.f_tuple bt_tuple) ma_nil))))) (mw_or1 (mt_not (mt_val (me_callB (cr_all rfl) ol_all x.f_all bt_all (ma_cons (me_lc (own := [("lit", 1)]) rfl sc_is_clause.nd (mi_seq (me_v (pv 0))) (show BlkOk N_is_clause (defScope s_is_clause) _ _ from ⟨rfl, by decide +kernel, by decide +kernel, by decide +kernel, by decide +kernel⟩) (by decide) (fun _ _ _ _ _ => (pg_name (i := 1) sc_is_clause.nd rfl (.inl rfl))) (fun _ _ _ _ _ => mts_nil) (fun _ _ _ _ _ => (me_call (F_is_lit.mono (by decide)) hr rfl x.g_is_lit k_is_lit b_is_lit v_is_lit (fun _ _ => .nil) pz (ma_cons (me_v (pv 1)) ma_nil)))) ma_nil))))))) (mss_one (ms_ret me_bl)) mss_nil)
  (mss_one (ms_ret (me_callB (cr_all rfl) ol_all x.f_all bt_all (ma_cons (me_lc (own := [("one", 2), ("other", 3)]) rfl sc_is_clause.nd (mi_zip x.f_zip (me_v (pv 0)) (me_slice (me_v (pv 0)) (mo_some me_int) mo_none)) (show BlkOk N_is_clause (defScope s_is_clause) _ _ from ⟨rfl, by decide +kernel, by decide +kernel, by decide +kernel, by decide +kernel⟩) (by decide) (fun _ _ _ _ _ => (pg_tp rfl (pgs_cons (pg_name (i := 2) sc_is_clause.nd rfl (.inl rfl)) (pgs_cons (pg_name (i := 3) sc_is_clause.nd rfl (.inl rfl)) pgs_nil)))) (fun _ _ _ _ _ => mts_nil) (fun _ _ _ _ _ => (me_cmp op_lt o_lt (me_callB call_abs ol_abs x.f_abs bt_abs (ma_cons (me_v (pv 2)) ma_nil)) (me_callB call_abs ol_abs x.f_abs bt_abs (ma_cons (me_v (pv 3)) ma_nil)) (nomark _)))) ma_nil)))))
theorem ok_is_own (x : Fx w K mg) : Okf P w K mg base 4 (He.fAd K D_is_own.at_) ["thing", "letters"] 2 p_is_own := by
  obtain ⟨fd, F⟩ := x.c.def_ 4 (d := D_is_own) rfl
  obtain ⟨fd_is_clause, F_is_clause, k_is_clause, b_is_clause⟩ := ok_is_clause (P := P) (base := base) x
  have v_is_clause : Vals [] [] := .nil
  refine ⟨fd, F.ok (k := 3) sc_is_own (fun vs H Q E h => h.1) (fun cdv A outer s H vs Q E hr h => ⟨tMs ⟨K, Gm K⟩ (EW E) b_is_own, PSs.nox ?_, runZ_ok (N := N_is_own) h⟩), F.kp, F.bindsN fun _ _ _ _ _ _ us hl => match us, hl with | [_, _], _ => rfl⟩
  exact (mss_one (ms_ret (me_and (me_call (F_is_clause.mono (by decide)) hr rfl x.g_is_clause k_is_clause b_is_clause v_is_clause (fun _ _ => .nil) pz (ma_cons (me_v (pv 0)) ma_nil)) (me_one (me_callB (cr_all rfl) ol_all x.f_all bt_all (ma_cons (me_lc (own := [("lit", 2)]) rfl sc_is_own.nd (mi_seq (me_v (pv 0))) (show BlkOk N_is_own (defScope s_is_own) _ _ from ⟨rfl, by decide +kernel, by decide +kernel, by decide +kernel, by decide +kernel⟩) (by decide) (fun _ _ _ _ _ => (pg_name (i := 2) sc_is_own.nd rfl (.inl rfl))) (fun _ _ _ _ _ => mts_nil) (fun _ _ _ _ _ => (me_cmp op_le o_le (me_callB call_abs ol_abs x.f_abs bt_abs (ma_cons (me_v (pv 2)) ma_nil)) (me_v (pv 1)) (nomark _)))) ma_nil))))))
theorem ok_first_wrong (x : Fx w K mg) : Okd P w K mg base 5 (He.fAd K D_first_wrong.at_) ["clauses", "letters", "twice"] 3 p_first_wrong [V.bl false] := by
  obtain ⟨fd, F⟩ := x.c.def_ 5 (d := D_first_wrong) rfl
  obtain ⟨fd_is_own, F_is_own, k_is_own, b_is_own⟩ := ok_is_own (P := P) (base := base) x
  have v_is_own : Vals [] [] := .nil
  obtain ⟨ds, hv, hb⟩ := F.binds0 (ps := ["clauses", "letters", "twice"]) 2 (by simp [D_first_wrong, He.DefD.kws]) rfl (fun D doc pm an cdv ct us ks hu hk => match us, ks, hu, hk with | [_, _], [_], _, _ => ⟨_, _, _, _, _, _, rfl, rfl, rfl⟩)
  refine ⟨fd, ds, F.ok (k := 4) sc_first_wrong (fun vs H Q E h => h.1) (fun cdv A outer s H vs Q E hr h => ⟨tMs ⟨K, Gm K⟩ (EW E) b_first_wrong, PSs.nox ?_, runZ_ok (N := N_first_wrong) h⟩), F.kp, hb, hv⟩
  exact (mss_cons (ms_set (i := 3) sc_first_wrong.nd rfl (.inl rfl) me_newT)
  (mss_cons (ms_for PassesOwn.never rfl (mi_enum x.f_enumerate (me_v (pv 0))) (pg_tp rfl (pgs_cons (pg_name (i := 4) sc_first_wrong.nd rfl (.inl rfl)) (pgs_cons (pg_name (i := 5) sc_first_wrong.nd rfl (.inl rfl)) pgs_nil))) (mss_cons (ms_if (mt_w (mw_or (mt_not (mt_val (me_call (F_is_own.mono (by decide)) hr rfl x.g_is_own k_is_own b_is_own v_is_own (fun _ _ => .nil) pz (ma_cons (me_v (pv 5)) (ma_cons (me_v (pv 1)) ma_nil))))) (mw_or1 (mt_w (mw_and (mt_cmp (op_inA (roomU hr)) o_in (me_v (pv 5)) (me_v (pv 3)) (by with_unfolding_all rfl)) (mw_and1 (mt_not (mt_val (me_v (pv 2)))))))))) (mss_one (ms_ret (me_v (pv 4)))) mss_nil)
  (mss_one (ms_asgG me_bl (mg_item (W := EW E) (roomU1 hr) (me_v (pv 3)) (me_v (pv 5)))))))
  (mss_one (ms_ret me_non))))
theorem ok_book_init (x : Fx w K mg) : Okf P w K mg base 6 (He.fAd K D_book_init.at_) ["self", "letters", "clauses"] 3 p_book_init := by
  obtain ⟨fd, F⟩ := x.c.def_ 6 (d := D_book_init) rfl
  obtain ⟨fd_is_whole, F_is_whole, k_is_whole, b_is_whole⟩ := ok_is_whole (P := P) (base := base) x
  have v_is_whole : Vals [] [] := .nil
  obtain ⟨fd_first_wrong, ds_first_wrong, F_first_wrong, k_first_wrong, b_first_wrong, v_first_wrong⟩ := ok_first_wrong (P := P) (base := base) x
  obtain ⟨t_MOST_LETTER, i_MOST_LETTER⟩ := x.i_MOST_LETTER
  obtain ⟨t_MOST_CLAUSES, i_MOST_CLAUSES⟩ := x.i_MOST_CLAUSES
  obtain ⟨ds, hv, hb⟩ := F.binds1 (ps := ["self", "letters", "clauses"]) 3 1 (by simp [D_book_init, He.DefD.dvs]) rfl (fun T kV doc pm an cdv ct us its hu hi => match us, its, hu, hi with | [_, _, _], [_], _, _ => ⟨_, rfl, rfl⟩)
  obtain rfl : ds = [] := by cases hv; rfl
  refine ⟨fd, F.ok (k := 5) sc_book_init (fun vs H Q E h => h.1) (fun cdv A outer s H vs Q E hr h => ⟨tMs ⟨K, Gm K⟩ (EW E) b_book_init, PSs.nox ?_, runK_ok (N := N_book_init) h⟩), F.kp, hb⟩
  exact (mss_cons (ms_if (mt_w (mw_or (mt_not (mt_val (me_call (F_is_whole.mono (by decide)) hr rfl x.g_is_whole k_is_whole b_is_whole v_is_whole (fun _ _ => .nil) pz (ma_cons (me_v (pv 1)) ma_nil)))) (mw_or1 (mt_not (mt_chain op_le op_le o_le o_le me_int (me_v (pv 1)) (me_glob (av := .int 40) (v := .int _) i_MOST_LETTER ⟨_, rfl⟩ fun _ _ => .int _)))))) mss_stuck mss_nil)
  (mss_cons (ms_if (mt_w (mw_or (mt_not (mt_val (me_callB call_isiA (ol_isiA (x.ins rfl)) x.f_isinstance bt_isinstance (ma_cons (me_v (pv 2)) (ma_cons (me_ty x.f_tuple bt_tuple) ma_nil))))) (mw_or1 (mt_cmp op_gt o_gt (me_callB call_len_seq ol_len x.f_len bt_len (ma_cons (me_v (pv 2)) ma_nil)) (me_glob (av := .int 400) (v := .int _) i_MOST_CLAUSES ⟨_, rfl⟩ fun _ _ => .int _) (nomark _))))) mss_stuck mss_nil)
  (mss_cons (ms_set (i := 3) sc_book_init.nd rfl (.inl rfl) (me_call (F_first_wrong.mono (by decide)) hr rfl x.g_first_wrong k_first_wrong b_first_wrong v_first_wrong (fun _ _ => .cons (.bl _) .nil) pz (ma_cons (me_v (pv 2)) (ma_cons (me_v (pv 1)) ma_nil))))
  (mss_cons (ms_if (mt_cmp op_notN o_notN (me_v (pv 3)) me_non (nomark _)) mss_stuck mss_nil)
  (mss_cons (ms_fld (me_v (pv 0)) (me_v (pv 1)) rfl x.c_Book x.n_Book_letters rfl)
  (mss_one (ms_fld (me_v (pv 0)) (me_v (pv 2)) rfl x.c_Book x.n_Book_clauses rfl)))))))
theorem ok_check_book (x : Fx w K mg) : Okf P w K mg base 1 (He.fAd K D_check_book.at_) ["thing"] 1 p_check_book := by
  obtain ⟨fd, F⟩ := x.c.def_ 7 (d := D_check_book) rfl
  refine ⟨fd, F.ok (k := 0) sc_check_book (fun vs H Q E h => h.1) (fun cdv A outer s H vs Q E hr h => ⟨tMs ⟨K, Gm K⟩ (EW E) b_check_book, PSs.nox ?_, runZ_ok (N := N_check_book) h⟩), F.kp, F.bindsN fun _ _ _ _ _ _ us hl => match us, hl with | [_], _ => rfl⟩
  exact (mss_one (ms_if (mt_not (mt_val (me_callB call_isiA (ol_isiA (x.ins rfl)) x.f_isinstance bt_isinstance (ma_cons (me_v (pv 0)) (ma_cons (me_glob (av := .glo "Book") (v := .ref _) x.g_Book rfl fun _ _ => .glo rfl) ma_nil))))) mss_stuck mss_nil))
end
end MM
set_option Elab.async false
set_option linter.all false
set_option maxRecDepth 100000
set_option maxHeartbeats 0
namespace MM
open PySem PySem.Spec PyProof.Rows L2
section
variable {P : Program} {w : World} {K : PySem.W.Frag} {mg : Str → Option Value} {base : Heap}
theorem ok_ground_init (x : Fx w K mg) : Okf P w K mg base 1 (He.fAd K D_ground_init.at_) ["self", "book"] 2 p_ground_init := by
  obtain ⟨fd, F⟩ := x.c.def_ 8 (d := D_ground_init) rfl
  refine ⟨fd, F.ok (k := 0) sc_ground_init (fun vs H Q E h => h.1) (fun cdv A outer s H vs Q E hr h => ⟨tMs ⟨K, Gm K⟩ (EW E) b_ground_init, PSs.nox ?_, runK_ok (N := N_ground_init) h⟩), F.kp, F.bindsN fun _ _ _ _ _ _ us hl => match us, hl with | [_, _], _ => rfl⟩
  exact (mss_cons (ms_fld (me_v (pv 0)) (me_v (pv 1)) rfl x.c_Ground x.n_Ground_book rfl)
  (mss_cons (ms_fld (me_v (pv 0)) (me_dcT (own := [("clause", 2)]) (roomU1 hr) rfl sc_ground_init.nd (mi_seq (me_fld (me_v (pv 1)) rfl x.c_Book x.n_Book_clauses rfl)) (show BlkOk N_ground_init (defScope s_ground_init) _ _ from ⟨rfl, by decide +kernel, by decide +kernel, by decide +kernel, by decide +kernel⟩) (by decide) (fun _ _ _ _ _ => (pg_name (i := 2) sc_ground_init.nd rfl (.inl rfl))) (fun _ _ _ _ _ => mts_nil) (fun _ _ _ _ _ => (me_v (pv 2))) (fun _ _ _ _ _ => me_bl)) rfl x.c_Ground x.n_Ground_held rfl)
  (mss_cons (ms_fld (me_v (pv 0)) me_empT rfl x.c_Ground x.n_Ground_found rfl)
  (mss_one (ms_fld (me_v (pv 0)) (me_lst ma_nil) rfl x.c_Ground x.n_Ground_tail rfl)))))
theorem ok_standing_init (x : Fx w K mg) : Okf P w K mg base 1 (He.fAd K D_standing_init.at_) ["self", "ground"] 2 p_standing_init := by
  obtain ⟨fd, F⟩ := x.c.def_ 9 (d := D_standing_init) rfl
  refine ⟨fd, F.ok (k := 0) sc_standing_init (fun vs H Q E h => h.1) (fun cdv A outer s H vs Q E hr h => ⟨tMs ⟨K, Gm K⟩ (EW E) b_standing_init, PSs.nox ?_, runK_ok (N := N_standing_init) h⟩), F.kp, F.bindsN fun _ _ _ _ _ _ us hl => match us, hl with | [_, _], _ => rfl⟩
  exact (mss_cons (ms_fld (me_v (pv 0)) (me_fld (me_v (pv 1)) rfl x.c_Ground x.n_Ground_book rfl) rfl x.c_Standing x.n_Standing_book rfl)
  (mss_cons (ms_fld (me_v (pv 0)) (me_callTy call_tuple_of ol_tuple x.f_tuple bt_tuple (ma_cons (me_callB (cr_sortT rfl (roomU hr)) ol_sortT x.f_sorted bt_sorted (ma_cons (me_fld (me_v (pv 1)) rfl x.c_Ground x.n_Ground_held rfl) ma_nil)) ma_nil)) rfl x.c_Standing x.n_Standing_held rfl)
  (mss_cons (ms_fld (me_v (pv 0)) (me_callTy call_tuple_of ol_tuple x.f_tuple bt_tuple (ma_cons (me_callB (cr_sortT rfl (roomU hr)) ol_sortT x.f_sorted bt_sorted (ma_cons (me_fld (me_v (pv 1)) rfl x.c_Ground x.n_Ground_found rfl) ma_nil)) ma_nil)) rfl x.c_Standing x.n_Standing_found rfl)
  (mss_one (ms_fld (me_v (pv 0)) (me_callTy call_tuple_of ol_tuple x.f_tuple bt_tuple (ma_cons (me_fld (me_v (pv 1)) rfl x.c_Ground x.n_Ground_tail rfl) ma_nil)) rfl x.c_Standing x.n_Standing_tail rfl)))))
theorem ok_work_show (x : Fx w K mg) : Okf P w K mg base 3 (He.fAd K D_work_show.at_) ["self"] 1 p_work_show := by
  obtain ⟨fd, F⟩ := x.c.def_ 10 (d := D_work_show) rfl
  obtain ⟨fd_standing_init, F_standing_init, k_standing_init, b_standing_init⟩ := ok_standing_init (P := P) (base := base) x
  have v_standing_init : Vals [] [] := .nil
  refine ⟨fd, F.ok (k := 2) sc_work_show (fun vs H Q E h => h.1) (fun cdv A outer s H vs Q E hr h => ⟨tMs ⟨K, Gm K⟩ (EW E) b_work_show, PSs.nox ?_, runK_ok (N := N_work_show) h⟩), F.kp, F.bindsN fun _ _ _ _ _ _ us hl => match us, hl with | [_], _ => rfl⟩
  exact (mss_cons (ms_set (i := 1) sc_work_show.nd rfl (.inl rfl) (me_make x.mk_Standing (F_standing_init.mono (by decide)) hr rfl x.g_Standing rfl b_standing_init v_standing_init (fun _ _ => .nil) pz (ma_cons (me_fld (me_v (pv 0)) rfl x.c_Work x.n_Work_ground rfl) ma_nil)))
  (mss_one (ms_asgG (me_tup (ma_cons (me_fld (me_v (pv 1)) rfl x.c_Standing x.n_Standing_book rfl) (ma_cons (me_fld (me_v (pv 1)) rfl x.c_Standing x.n_Standing_held rfl) (ma_cons (me_fld (me_v (pv 1)) rfl x.c_Standing x.n_Standing_found rfl) (ma_cons (me_fld (me_v (pv 1)) rfl x.c_Standing x.n_Standing_tail rfl) ma_nil))))) (mg_tup rfl (mgs_cons (mg_fld (me_v (pv 0)) rfl x.c_Work x.n_Work_book rfl) (mgs_cons (mg_fld (me_v (pv 0)) rfl x.c_Work x.n_Work_held rfl) (mgs_cons (mg_fld (me_v (pv 0)) rfl x.c_Work x.n_Work_found rfl) (mgs_cons (mg_fld (me_v (pv 0)) rfl x.c_Work x.n_Work_tail rfl) mgs_nil))))))))
theorem ok_work_init (x : Fx w K mg) : Okd P w K mg base 4 (He.fAd K D_work_init.at_) ["self", "book", "most"] 3 p_work_init [V.int 4000] := by
  obtain ⟨fd, F⟩ := x.c.def_ 11 (d := D_work_init) rfl
  obtain ⟨fd_check_book, F_check_book, k_check_book, b_check_book⟩ := ok_check_book (P := P) (base := base) x
  have v_check_book : Vals [] [] := .nil
  obtain ⟨fd_is_whole, F_is_whole, k_is_whole, b_is_whole⟩ := ok_is_whole (P := P) (base := base) x
  have v_is_whole : Vals [] [] := .nil
  obtain ⟨fd_ground_init, F_ground_init, k_ground_init, b_ground_init⟩ := ok_ground_init (P := P) (base := base) x
  have v_ground_init : Vals [] [] := .nil
  obtain ⟨fd_work_show, F_work_show, k_work_show, b_work_show⟩ := ok_work_show (P := P) (base := base) x
  have v_work_show : Vals [] [] := .nil
  obtain ⟨t_MOST_LINES, i_MOST_LINES⟩ := x.i_MOST_LINES
  obtain ⟨ds, hv, hb⟩ := F.binds0 (ps := ["self", "book", "most"]) 2 (by simp [D_work_init, He.DefD.kws]) rfl (fun D doc pm an cdv ct us ks hu hk => match us, ks, hu, hk with | [_, _], [_], _, _ => ⟨_, _, _, _, _, _, rfl, rfl, rfl⟩)
  refine ⟨fd, ds, F.ok (k := 3) sc_work_init (fun vs H Q E h => h.1) (fun cdv A outer s H vs Q E hr h => ⟨tMs ⟨K, Gm K⟩ (EW E) b_work_init, PSs.nox ?_, runK_ok (N := N_work_init) h⟩), F.kp, hb, hv⟩
  exact (mss_cons (ms_exp (me_call (F_check_book.mono (by decide)) hr rfl x.g_check_book k_check_book b_check_book v_check_book (fun _ _ => .nil) pz (ma_cons (me_v (pv 1)) ma_nil)))
  (mss_cons (ms_if (mt_w (mw_or (mt_not (mt_val (me_call (F_is_whole.mono (by decide)) hr rfl x.g_is_whole k_is_whole b_is_whole v_is_whole (fun _ _ => .nil) pz (ma_cons (me_v (pv 2)) ma_nil)))) (mw_or1 (mt_not (mt_chain op_le op_le o_le o_le me_int (me_v (pv 2)) (me_glob (av := .int 4000) (v := .int _) i_MOST_LINES ⟨_, rfl⟩ fun _ _ => .int _)))))) mss_stuck mss_nil)
  (mss_cons (ms_fld (me_v (pv 0)) (me_v (pv 2)) rfl x.c_Work x.n_Work_most rfl)
  (mss_cons (ms_fld (me_v (pv 0)) (me_make x.mk_Ground (F_ground_init.mono (by decide)) hr rfl x.g_Ground rfl b_ground_init v_ground_init (fun _ _ => .nil) pz (ma_cons (me_v (pv 1)) ma_nil)) rfl x.c_Work x.n_Work_ground rfl)
  (mss_cons (ms_fld (me_v (pv 0)) (me_tup ma_nil) rfl x.c_Work x.n_Work_log rfl)
  (mss_cons (ms_asg4 me_non (mg_fld (me_v (pv 0)) rfl x.c_Work x.n_Work_book rfl) (mg_fld (me_v (pv 0)) rfl x.c_Work x.n_Work_held rfl) (mg_fld (me_v (pv 0)) rfl x.c_Work x.n_Work_found rfl) (mg_fld (me_v (pv 0)) rfl x.c_Work x.n_Work_tail rfl))
  (mss_one (ms_exp (me_meth0 (me_v (pv 0)) rfl x.c_Work x.m_Work_show (F_work_show.mono (by decide)) hr b_work_show v_work_show (fun _ _ => .nil) pz rfl)))))))))
theorem ok_is_line (x : Fx w K mg) : Okf P w K mg base 4 (He.fAd K D_is_line.at_) ["thing"] 1 p_is_line := by
  obtain ⟨fd, F⟩ := x.c.def_ 12 (d := D_is_line) rfl
  obtain ⟨fd_is_whole, F_is_whole, k_is_whole, b_is_whole⟩ := ok_is_whole (P := P) (base := base) x
  have v_is_whole : Vals [] [] := .nil
  obtain ⟨fd_is_clause, F_is_clause, k_is_clause, b_is_clause⟩ := ok_is_clause (P := P) (base := base) x
  have v_is_clause : Vals [] [] := .nil
  refine ⟨fd, F.ok (k := 3) sc_is_line (fun vs H Q E h => h.1) (fun cdv A outer s H vs Q E hr h => ⟨tMs ⟨K, Gm K⟩ (EW E) b_is_line, PSs.nox ?_, runZ_ok (N := N_is_line) h⟩), F.kp, F.bindsN fun _ _ _ _ _ _ us hl => match us, hl with | [_], _ => rfl⟩
  exact (mss_cons (ms_if (mt_w (mw_or (mt_not (mt_val (me_callB call_isiA (ol_isiA (x.ins rfl)) x.f_isinstance bt_isinstance (ma_cons (me_v (pv 0)) (ma_cons (me_ty x.f_tuple bt_tuple) ma_nil))))) (mw_or (mt_cmp op_lt o_lt (me_callB call_len_seq ol_len x.f_len bt_len (ma_cons (me_v (pv 0)) ma_nil)) me_int (nomark _)) (mw_or1 (mt_not (mt_val (me_callB call_isiA (ol_isiA (x.ins rfl)) x.f_isinstance bt_isinstance (ma_cons (me_ix (me_v (pv 0)) me_int (by intro _ _; with_unfolding_all rfl)) (ma_cons (me_ty x.f_str bt_str) ma_nil))))))))) (mss_one (ms_ret me_bl)) mss_nil)
  (mss_cons (ms_asgG (me_v (pv 0)) (mg_star (es' := [.Name "word" ⟨149, 4, 149, 8⟩, .Name "rest" ⟨149, 11, 149, 15⟩]) rfl (pgs_cons (pg_name (i := 1) sc_is_line.nd rfl (.inl rfl)) (pgs_cons (pg_name (i := 2) sc_is_line.nd rfl (.inl rfl)) pgs_nil))))
  (mss_cons (ms_if (mt_cmp (op_eq2 (roomU64 hr)) o_eq2 (me_v (pv 1)) me_str (nomark _)) (mss_one (ms_ret (me_and (me_cmp (op_eq2 (roomU64 hr)) o_eq2 (me_callB call_len_seq ol_len x.f_len bt_len (ma_cons (me_v (pv 2)) ma_nil)) me_int (nomark _)) (me_and (me_call (F_is_whole.mono (by decide)) hr rfl x.g_is_whole k_is_whole b_is_whole v_is_whole (fun _ _ => .nil) pz (ma_cons (me_ix (me_v (pv 2)) me_int (by intro _ _; with_unfolding_all rfl)) ma_nil)) (me_one (me_cmp op_ge o_ge (me_ix (me_v (pv 2)) me_int (by intro _ _; with_unfolding_all rfl)) me_int (nomark _))))))) mss_nil)
  (mss_cons (ms_if (mt_cmp (op_eq2 (roomU64 hr)) o_eq2 (me_v (pv 1)) me_str (nomark _)) (mss_one (ms_ret (me_and (me_cmp (op_eq2 (roomU64 hr)) o_eq2 (me_callB call_len_seq ol_len x.f_len bt_len (ma_cons (me_v (pv 2)) ma_nil)) me_int (nomark _)) (me_and (me_call (F_is_clause.mono (by decide)) hr rfl x.g_is_clause k_is_clause b_is_clause v_is_clause (fun _ _ => .nil) pz (ma_cons (me_ix (me_v (pv 2)) me_int (by intro _ _; with_unfolding_all rfl)) ma_nil)) (me_and (me_call (F_is_whole.mono (by decide)) hr rfl x.g_is_whole k_is_whole b_is_whole v_is_whole (fun _ _ => .nil) pz (ma_cons (me_ix (me_v (pv 2)) me_int (by intro _ _; with_unfolding_all rfl)) ma_nil)) (me_one (me_cmp (op_inA (roomU hr)) o_in (me_ix (me_v (pv 2)) me_int (by intro _ _; with_unfolding_all rfl)) (me_ix (me_v (pv 2)) me_int (by intro _ _; with_unfolding_all rfl)) (by with_unfolding_all rfl)))))))) mss_nil)
  (mss_one (ms_ret (me_and (me_cmp (op_inA (roomU hr)) o_in (me_v (pv 1)) (me_glob (av := kt_OF_CLAUSE) (v := .ref _) x.g_OF_CLAUSE rfl fun _ _ => x.k_OF_CLAUSE) (by with_unfolding_all rfl)) (me_and (me_cmp (op_eq2 (roomU64 hr)) o_eq2 (me_callB call_len_seq ol_len x.f_len bt_len (ma_cons (me_v (pv 2)) ma_nil)) me_int (nomark _)) (me_one (me_call (F_is_clause.mono (by decide)) hr rfl x.g_is_clause k_is_clause b_is_clause v_is_clause (fun _ _ => .nil) pz (ma_cons (me_ix (me_v (pv 2)) me_int (by intro _ _; with_unfolding_all rfl)) ma_nil)))))))))))
theorem ok_greatest_letter (x : Fx w K mg) : Okf P w K mg base 1 (He.fAd K D_greatest_letter.at_) ["clauses"] 1 p_greatest_letter := by
  obtain ⟨fd, F⟩ := x.c.def_ 13 (d := D_greatest_letter) rfl
  refine ⟨fd, F.ok (k := 0) sc_greatest_letter (fun vs H Q E h => h.1) (fun cdv A outer s H vs Q E hr h => ⟨tMs ⟨K, Gm K⟩ (EW E) b_greatest_letter, PSs.nox ?_, runZ_ok (N := N_greatest_letter) h⟩), F.kp, F.bindsN fun _ _ _ _ _ _ us hl => match us, hl with | [_], _ => rfl⟩
  exact (mss_one (ms_ret (me_maxD rfl x.f_max (me_lc2 (own := [("clause", 1), ("lit", 2)]) (own1 := [2]) rfl sc_greatest_letter.nd (mi_seq (me_v (pv 0))) (show BlkOk N_greatest_letter (defScope s_greatest_letter) _ _ from ⟨rfl, by decide +kernel, by decide +kernel, by decide +kernel, by decide +kernel⟩) (by decide) (by decide) (by decide) (fun _ _ _ _ _ => (pg_name (i := 1) sc_greatest_letter.nd rfl (.inl rfl))) (fun _ _ _ _ _ => (mi_seq (me_v (pv 1)))) (fun _ _ _ _ _ => (pg_name (i := 2) sc_greatest_letter.nd rfl (.inl rfl))) (fun _ _ _ _ _ => mts_nil) (fun _ _ _ _ _ => (me_callB call_abs ol_abs x.f_abs bt_abs (ma_cons (me_v (pv 2)) ma_nil)))) me_int)))
theorem ok_ground_is_near (x : Fx w K mg) : Okf P w K mg base 2 (He.fAd K D_ground_is_near.at_) ["self", "clause"] 2 p_ground_is_near := by
  obtain ⟨fd, F⟩ := x.c.def_ 14 (d := D_ground_is_near) rfl
  obtain ⟨fd_greatest_letter, F_greatest_letter, k_greatest_letter, b_greatest_letter⟩ := ok_greatest_letter (P := P) (base := base) x
  have v_greatest_letter : Vals [] [] := .nil
  refine ⟨fd, F.ok (k := 1) sc_ground_is_near (fun vs H Q E h => h.1) (fun cdv A outer s H vs Q E hr h => ⟨tMs ⟨K, Gm K⟩ (EW E) b_ground_is_near, PSs.nox ?_, runK_ok (N := N_ground_is_near) h⟩), F.kp, F.bindsN fun _ _ _ _ _ _ us hl => match us, hl with | [_, _], _ => rfl⟩
  exact (mss_one (ms_ret (me_cmp op_le o_le (me_call (F_greatest_letter.mono (by decide)) hr rfl x.g_greatest_letter k_greatest_letter b_greatest_letter v_greatest_letter (fun _ _ => .nil) pz (ma_cons (me_lst (ma_cons (me_v (pv 1)) ma_nil)) ma_nil)) (me_fld (me_fld (me_v (pv 0)) rfl x.c_Ground x.n_Ground_book rfl) rfl x.c_Book x.n_Book_letters rfl) (nomark _))))
theorem ok_walk (x : Fx w K mg) : Okf P w K mg base 1 (He.fAd K D_walk.at_) ["clauses", "lits"] 2 p_walk := by
  obtain ⟨fd, F⟩ := x.c.def_ 15 (d := D_walk) rfl
  refine ⟨fd, F.ok (k := 0) sc_walk (fun vs H Q E h => h.1) (fun cdv A outer s H vs Q E hr h => ⟨tMs ⟨K, Gm K⟩ (EW E) b_walk, PSs.nox ?_, runZ_ok (N := N_walk) h⟩), F.kp, F.bindsN fun _ _ _ _ _ _ us hl => match us, hl with | [_, _], _ => rfl⟩
  exact (mss_cons (ms_asgG (me_tup (ma_cons (me_dcKn (own := [("lit", 10)]) (roomU1 hr) rfl sc_walk.nd (mi_seq (me_v (pv 1))) (show BlkOk N_walk (defScope s_walk) _ _ from ⟨rfl, by decide +kernel, by decide +kernel, by decide +kernel, by decide +kernel⟩) (by decide) (fun _ _ _ _ _ => (pg_name (i := 10) sc_walk.nd rfl (.inl rfl))) (fun _ _ _ _ _ => mts_nil) (fun _ _ _ _ _ => (me_v (pv 10))) (fun _ _ _ _ _ => me_bl)) (ma_cons (me_new ma_nil) ma_nil))) (mg_set (tt := (.tp [2, 3])) (pg_tp rfl (pgs_cons (pg_name (i := 2) sc_walk.nd rfl (.inr rfl)) (pgs_cons (pg_name (i := 3) sc_walk.nd rfl (.inl rfl)) pgs_nil)))))
  (mss_cons (ms_set (i := 4) sc_walk.nd rfl (.inl rfl) me_bl)
  (mss_cons (ms_while (fuel := 100) PassesOwn.never (mt_val (me_v (pv 4))) (mss_cons (ms_set (i := 4) sc_walk.nd rfl (.inl rfl) me_bl)
  (mss_one (ms_for PassesOwn.never rfl (mi_enum x.f_enumerate (me_v (pv 0))) (pg_tp rfl (pgs_cons (pg_name (i := 5) sc_walk.nd rfl (.inl rfl)) (pgs_cons (pg_name (i := 6) sc_walk.nd rfl (.inl rfl)) pgs_nil))) (mss_cons (ms_setLc (i := 7) (own := [("lit", 10)]) rfl sc_walk.nd rfl rfl (mi_seq (me_v (pv 6))) (show BlkOk N_walk (defScope s_walk) _ _ from ⟨rfl, by decide +kernel, by decide +kernel, by decide +kernel, by decide +kernel⟩) (by decide) (fun _ _ _ _ _ => (pg_name (i := 10) sc_walk.nd rfl (.inl rfl))) (fun _ _ _ _ _ => (mts_one (mt_cmp (op_notInA (roomU hr)) o_notIn (me_op op_sub o_sub me_int (me_v (pv 10))) (me_v (pv 2)) (by with_unfolding_all rfl)))) (fun _ _ _ _ _ => (me_v (pv 10))) (by rfl))
  (mss_cons (ms_if (mt_cmp (op_eq2 (roomU64 hr)) o_eq2 (me_v (pv 7)) (me_lst ma_nil) (nomark _)) (mss_one (ms_ret (me_tup (ma_cons me_non (ma_cons (me_cat (me_v (pv 3)) (me_lst (ma_cons (me_tup (ma_cons me_int (ma_cons (me_v (pv 5)) ma_nil))) ma_nil))) ma_nil))))) mss_nil)
  (mss_cons (ms_asgG (me_v (pv 7)) (mg_star (es' := [.Name "first" ⟨129, 12, 129, 17⟩, .Name "others" ⟨129, 20, 129, 26⟩]) rfl (pgs_cons (pg_name (i := 8) sc_walk.nd rfl (.inl rfl)) (pgs_cons (pg_name (i := 9) sc_walk.nd rfl (.inl rfl)) pgs_nil))))
  (mss_one (ms_if (mt_w (mw_and (mt_cmp (op_eq2 (roomU64 hr)) o_eq2 (me_v (pv 9)) (me_lst ma_nil) (nomark _)) (mw_and1 (mt_cmp (op_notInA (roomU hr)) o_notIn (me_v (pv 8)) (me_v (pv 2)) (by with_unfolding_all rfl))))) (mss_cons (ms_asg2 me_bl (mg_item (W := EW E) (roomU1 hr) (me_v (pv 2)) (me_v (pv 8))) (mg_set (pg_name (i := 4) sc_walk.nd rfl (.inl rfl))))
  (mss_one (ms_exp (me_append (me_v (pv 3)) (me_tup (ma_cons (me_v (pv 8)) (ma_cons (me_v (pv 5)) ma_nil))))))) mss_nil)))))))))
  (mss_one (ms_ret (me_tup (ma_cons (me_v (pv 2)) (ma_cons (me_v (pv 3)) ma_nil))))))))
end
end MM
set_option Elab.async false
set_option linter.all false
set_option maxRecDepth 100000
set_option maxHeartbeats 0
namespace MM
open PySem PySem.Spec PyProof.Rows L2
section
variable {P : Program} {w : World} {K : PySem.W.Frag} {mg : Str → Option Value} {base : Heap}
theorem ok_come (x : Fx w K mg) : Okf P w K mg base 2 (He.fAd K D_come.at_) ["clauses", "lits"] 2 p_come := by
  obtain ⟨fd, F⟩ := x.c.def_ 16 (d := D_come) rfl
  obtain ⟨fd_walk, F_walk, k_walk, b_walk⟩ := ok_walk (P := P) (base := base) x
  have v_walk : Vals [] [] := .nil
  refine ⟨fd, F.ok (k := 1) sc_come (fun vs H Q E h => h.1) (fun cdv A outer s H vs Q E hr h => ⟨tMs ⟨K, Gm K⟩ (EW E) b_come, PSs.nox ?_, runZ_ok (N := N_come) h⟩), F.kp, F.bindsN fun _ _ _ _ _ _ us hl => match us, hl with | [_, _], _ => rfl⟩
  exact (mss_cons (ms_asgG (me_call (F_walk.mono (by decide)) hr rfl x.g_walk k_walk b_walk v_walk (fun _ _ => .nil) pz (ma_cons (me_v (pv 0)) (ma_cons (me_v (pv 1)) ma_nil))) (mg_set (tt := (.tp [2, 3])) (pg_tp rfl (pgs_cons (pg_name (i := 2) sc_come.nd rfl (.inl rfl)) (pgs_cons (pg_name (i := 3) sc_come.nd rfl (.inl rfl)) pgs_nil)))))
  (mss_one (ms_ret (me_v (pv 2)))))
theorem ok_contraries (x : Fx w K mg) : Okf P w K mg base 1 (He.fAd K D_contraries.at_) ["clause"] 1 p_contraries := by
  obtain ⟨fd, F⟩ := x.c.def_ 17 (d := D_contraries) rfl
  refine ⟨fd, F.ok (k := 0) sc_contraries (fun vs H Q E h => h.1) (fun cdv A outer s H vs Q E hr h => ⟨tMs ⟨K, Gm K⟩ (EW E) b_contraries, PSs.nox ?_, runZ_ok (N := N_contraries) h⟩), F.kp, F.bindsN fun _ _ _ _ _ _ us hl => match us, hl with | [_], _ => rfl⟩
  exact (mss_one (ms_ret (me_callTy call_tuple_of ol_tuple x.f_tuple bt_tuple (ma_cons (me_lc (own := [("lit", 1)]) rfl sc_contraries.nd (mi_seq (me_v (pv 0))) (show BlkOk N_contraries (defScope s_contraries) _ _ from ⟨rfl, by decide +kernel, by decide +kernel, by decide +kernel, by decide +kernel⟩) (by decide) (fun _ _ _ _ _ => (pg_name (i := 1) sc_contraries.nd rfl (.inl rfl))) (fun _ _ _ _ _ => mts_nil) (fun _ _ _ _ _ => (me_op op_sub o_sub me_int (me_v (pv 1))))) ma_nil))))
theorem ok_follows_of (x : Fx w K mg) : Okf P w K mg base 3 (He.fAd K D_follows_of.at_) ["clauses", "clause"] 2 p_follows_of := by
  obtain ⟨fd, F⟩ := x.c.def_ 18 (d := D_follows_of) rfl
  obtain ⟨fd_come, F_come, k_come, b_come⟩ := ok_come (P := P) (base := base) x
  have v_come : Vals [] [] := .nil
  obtain ⟨fd_contraries, F_contraries, k_contraries, b_contraries⟩ := ok_contraries (P := P) (base := base) x
  have v_contraries : Vals [] [] := .nil
  refine ⟨fd, F.ok (k := 2) sc_follows_of (fun vs H Q E h => h.1) (fun cdv A outer s H vs Q E hr h => ⟨tMs ⟨K, Gm K⟩ (EW E) b_follows_of, PSs.nox ?_, runZ_ok (N := N_follows_of) h⟩), F.kp, F.bindsN fun _ _ _ _ _ _ us hl => match us, hl with | [_, _], _ => rfl⟩
  exact (mss_one (ms_ret (me_cmp op_isN o_isN (me_call (F_come.mono (by decide)) hr rfl x.g_come k_come b_come v_come (fun _ _ => .nil) pz (ma_cons (me_v (pv 0)) (ma_cons (me_call (F_contraries.mono (by decide)) hr rfl x.g_contraries k_contraries b_contraries v_contraries (fun _ _ => .nil) pz (ma_cons (me_v (pv 1)) ma_nil)) ma_nil))) me_non (nomark _))))
theorem ok_ground_all_there (x : Fx w K mg) : Okf P w K mg base 1 (He.fAd K D_ground_all_there.at_) ["self"] 1 p_ground_all_there := by
  obtain ⟨fd, F⟩ := x.c.def_ 19 (d := D_ground_all_there) rfl
  refine ⟨fd, F.ok (k := 0) sc_ground_all_there (fun vs H Q E h => h.1) (fun cdv A outer s H vs Q E hr h => ⟨tMs ⟨K, Gm K⟩ (EW E) b_ground_all_there, PSs.nox ?_, runK_ok (N := N_ground_all_there) h⟩), F.kp, F.bindsN fun _ _ _ _ _ _ us hl => match us, hl with | [_], _ => rfl⟩
  exact (mss_one (ms_ret (me_cat (me_callTy (call_listOf rfl) ol_list x.f_list bt_list (ma_cons (me_fld (me_v (pv 0)) rfl x.c_Ground x.n_Ground_held rfl) ma_nil)) (me_callTy (call_listOf rfl) ol_list x.f_list bt_list (ma_cons (me_fld (me_v (pv 0)) rfl x.c_Ground x.n_Ground_found rfl) ma_nil)))))
theorem ok_ground_takes_add (x : Fx w K mg) : Okf P w K mg base 4 (He.fAd K D_ground_takes_add.at_) ["self", "clause"] 2 p_ground_takes_add := by
  obtain ⟨fd, F⟩ := x.c.def_ 20 (d := D_ground_takes_add) rfl
  obtain ⟨fd_ground_is_near, F_ground_is_near, k_ground_is_near, b_ground_is_near⟩ := ok_ground_is_near (P := P) (base := base) x
  have v_ground_is_near : Vals [] [] := .nil
  obtain ⟨fd_follows_of, F_follows_of, k_follows_of, b_follows_of⟩ := ok_follows_of (P := P) (base := base) x
  have v_follows_of : Vals [] [] := .nil
  obtain ⟨fd_ground_all_there, F_ground_all_there, k_ground_all_there, b_ground_all_there⟩ := ok_ground_all_there (P := P) (base := base) x
  have v_ground_all_there : Vals [] [] := .nil
  refine ⟨fd, F.ok (k := 3) sc_ground_takes_add (fun vs H Q E h => h.1) (fun cdv A outer s H vs Q E hr h => ⟨tMs ⟨K, Gm K⟩ (EW E) b_ground_takes_add, PSs.nox ?_, runK_ok (N := N_ground_takes_add) h⟩), F.kp, F.bindsN fun _ _ _ _ _ _ us hl => match us, hl with | [_, _], _ => rfl⟩
  exact (mss_cons (ms_if (mt_w (mw_or (mt_cmp (op_inA (roomU hr)) o_in (me_v (pv 1)) (me_fld (me_v (pv 0)) rfl x.c_Ground x.n_Ground_held rfl) (by with_unfolding_all rfl)) (mw_or (mt_cmp (op_inA (roomU hr)) o_in (me_v (pv 1)) (me_fld (me_v (pv 0)) rfl x.c_Ground x.n_Ground_found rfl) (by with_unfolding_all rfl)) (mw_or1 (mt_not (mt_val (me_meth (me_v (pv 0)) rfl x.c_Ground x.m_Ground_is_near (F_ground_is_near.mono (by decide)) hr b_ground_is_near v_ground_is_near (fun _ _ => .nil) pz rfl (ma_cons (me_v (pv 1)) ma_nil)))))))) (mss_one (ms_ret me_bl)) mss_nil)
  (mss_one (ms_ret (me_call (F_follows_of.mono (by decide)) hr rfl x.g_follows_of k_follows_of b_follows_of v_follows_of (fun _ _ => .nil) pz (ma_cons (me_meth0 (me_v (pv 0)) rfl x.c_Ground x.m_Ground_all_there (F_ground_all_there.mono (by decide)) hr b_ground_all_there v_ground_all_there (fun _ _ => .nil) pz rfl) (ma_cons (me_v (pv 1)) ma_nil))))))
theorem ok_ground_takes_found (x : Fx w K mg) : Okf P w K mg base 1 (He.fAd K D_ground_takes_found.at_) ["self", "clause"] 2 p_ground_takes_found := by
  obtain ⟨fd, F⟩ := x.c.def_ 21 (d := D_ground_takes_found) rfl
  refine ⟨fd, F.ok (k := 0) sc_ground_takes_found (fun vs H Q E h => h.1) (fun cdv A outer s H vs Q E hr h => ⟨tMs ⟨K, Gm K⟩ (EW E) b_ground_takes_found, PSs.nox ?_, runK_ok (N := N_ground_takes_found) h⟩), F.kp, F.bindsN fun _ _ _ _ _ _ us hl => match us, hl with | [_, _], _ => rfl⟩
  exact (mss_one (ms_ret (me_cmp (op_inA (roomU hr)) o_in (me_v (pv 1)) (me_fld (me_v (pv 0)) rfl x.c_Ground x.n_Ground_found rfl) (by with_unfolding_all rfl))))
theorem ok_ground_others (x : Fx w K mg) : Okf P w K mg base 1 (He.fAd K D_ground_others.at_) ["self", "clause"] 2 p_ground_others := by
  obtain ⟨fd, F⟩ := x.c.def_ 22 (d := D_ground_others) rfl
  refine ⟨fd, F.ok (k := 0) sc_ground_others (fun vs H Q E h => h.1) (fun cdv A outer s H vs Q E hr h => ⟨tMs ⟨K, Gm K⟩ (EW E) b_ground_others, PSs.nox ?_, runK_ok (N := N_ground_others) h⟩), F.kp, F.bindsN fun _ _ _ _ _ _ us hl => match us, hl with | [_, _], _ => rfl⟩
  exact (mss_one (ms_ret (me_lcK (own := [("one", 2)]) rfl sc_ground_others.nd (det_fld (pv 0) rfl x.c_Ground x.n_Ground_held rfl) (show BlkOk N_ground_others (defScope s_ground_others) _ _ from ⟨rfl, by decide +kernel, by decide +kernel, by decide +kernel, by decide +kernel⟩) (by decide) (fun _ _ _ _ _ => (pg_name (i := 2) sc_ground_others.nd rfl (.inl rfl))) (fun _ _ _ _ _ => (mts_one (mt_cmp (op_ne2 (roomU64 hr)) o_ne2 (me_v (pv 2)) (me_v (pv 1)) (nomark _)))) (fun _ _ _ _ _ => (me_v (pv 2))))))
theorem ok_ground_takes_drop (x : Fx w K mg) : Okf P w K mg base 4 (He.fAd K D_ground_takes_drop.at_) ["self", "clause"] 2 p_ground_takes_drop := by
  obtain ⟨fd, F⟩ := x.c.def_ 23 (d := D_ground_takes_drop) rfl
  obtain ⟨fd_follows_of, F_follows_of, k_follows_of, b_follows_of⟩ := ok_follows_of (P := P) (base := base) x
  have v_follows_of : Vals [] [] := .nil
  obtain ⟨fd_ground_others, F_ground_others, k_ground_others, b_ground_others⟩ := ok_ground_others (P := P) (base := base) x
  have v_ground_others : Vals [] [] := .nil
  refine ⟨fd, F.ok (k := 3) sc_ground_takes_drop (fun vs H Q E h => h.1) (fun cdv A outer s H vs Q E hr h => ⟨tMs ⟨K, Gm K⟩ (EW E) b_ground_takes_drop, PSs.nox ?_, runK_ok (N := N_ground_takes_drop) h⟩), F.kp, F.bindsN fun _ _ _ _ _ _ us hl => match us, hl with | [_, _], _ => rfl⟩
  exact (mss_one (ms_ret (me_and (me_cmp (op_inA (roomU hr)) o_in (me_v (pv 1)) (me_fld (me_v (pv 0)) rfl x.c_Ground x.n_Ground_held rfl) (by with_unfolding_all rfl)) (me_one (me_call (F_follows_of.mono (by decide)) hr rfl x.g_follows_of k_follows_of b_follows_of v_follows_of (fun _ _ => .nil) pz (ma_cons (me_meth (me_v (pv 0)) rfl x.c_Ground x.m_Ground_others (F_ground_others.mono (by decide)) hr b_ground_others v_ground_others (fun _ _ => .nil) pz rfl (ma_cons (me_v (pv 1)) ma_nil)) (ma_cons (me_v (pv 1)) ma_nil)))))))
end
end MM
set_option Elab.async false
set_option linter.all false
set_option maxRecDepth 100000
set_option maxHeartbeats 0
namespace MM
open PySem PySem.Spec PyProof.Rows L2
section
variable {P : Program} {w : World} {K : PySem.W.Frag} {mg : Str → Option Value} {base : Heap}
theorem ok_made_of (x : Fx w K mg) : Okf P w K mg base 1 (He.fAd K D_made_of.at_) ["lits"] 1 p_made_of := by
  obtain ⟨fd, F⟩ := x.c.def_ 24 (d := D_made_of) rfl
  refine ⟨fd, F.ok (k := 0) sc_made_of (fun vs H Q E h => h.1) (fun cdv A outer s H vs Q E hr h => ⟨tMs ⟨K, Gm K⟩ (EW E) b_made_of, PSs.nox ?_, runZ_ok (N := N_made_of) h⟩), F.kp, F.bindsN fun _ _ _ _ _ _ us hl => match us, hl with | [_], _ => rfl⟩
  exact (mss_cons (ms_set (i := 1) sc_made_of.nd rfl (.inl rfl) (me_sortA rfl (roomU hr) x.f_sorted x.f_abs (me_dcK (own := [("lit", 2)]) (roomU1 hr) rfl sc_made_of.nd (mi_seq (me_v (pv 0))) (show BlkOk N_made_of (defScope s_made_of) _ _ from ⟨rfl, by decide +kernel, by decide +kernel, by decide +kernel, by decide +kernel⟩) (by decide) (fun _ _ _ _ _ => (pg_name (i := 2) sc_made_of.nd rfl (.inl rfl))) (fun _ _ _ _ _ => mts_nil) (fun _ _ _ _ _ => (me_v (pv 2))) (fun _ _ _ _ _ => me_bl))))
  (mss_cons (ms_if (mt_cmp (op_ne2 (roomU64 hr)) o_ne2 (me_lenSc (own := [("lit", 2)]) x.f_len rfl sc_made_of.nd (mi_seq (me_v (pv 1))) (show BlkOk N_made_of (defScope s_made_of) _ _ from ⟨rfl, by decide +kernel, by decide +kernel, by decide +kernel, by decide +kernel⟩) (by decide) (fun _ _ _ _ _ => (pg_name (i := 2) sc_made_of.nd rfl (.inl rfl))) (fun _ _ _ _ _ => mts_nil) (fun _ _ _ _ _ => (me_callB call_abs ol_abs x.f_abs bt_abs (ma_cons (me_v (pv 2)) ma_nil)))) (me_callB call_len_seq ol_len x.f_len bt_len (ma_cons (me_v (pv 1)) ma_nil)) (nomark _)) (mss_one (ms_ret me_non)) mss_nil)
  (mss_one (ms_ret (me_callTy call_tuple_of ol_tuple x.f_tuple bt_tuple (ma_cons (me_v (pv 1)) ma_nil))))))
theorem ok_resolve (x : Fx w K mg) : Okf P w K mg base 2 (He.fAd K D_resolve.at_) ["one", "other", "lit"] 3 p_resolve := by
  obtain ⟨fd, F⟩ := x.c.def_ 25 (d := D_resolve) rfl
  obtain ⟨fd_made_of, F_made_of, k_made_of, b_made_of⟩ := ok_made_of (P := P) (base := base) x
  have v_made_of : Vals [] [] := .nil
  refine ⟨fd, F.ok (k := 1) sc_resolve (fun vs H Q E h => h.1) (fun cdv A outer s H vs Q E hr h => ⟨tMs ⟨K, Gm K⟩ (EW E) b_resolve, PSs.nox ?_, runZ_ok (N := N_resolve) h⟩), F.kp, F.bindsN fun _ _ _ _ _ _ us hl => match us, hl with | [_, _, _], _ => rfl⟩
  exact (mss_one (ms_ret (me_call (F_made_of.mono (by decide)) hr rfl x.g_made_of k_made_of b_made_of v_made_of (fun _ _ => .nil) pz (ma_cons (me_cat (me_lc (own := [("own", 3)]) rfl sc_resolve.nd (mi_seq (me_v (pv 0))) (show BlkOk N_resolve (defScope s_resolve) _ _ from ⟨rfl, by decide +kernel, by decide +kernel, by decide +kernel, by decide +kernel⟩) (by decide) (fun _ _ _ _ _ => (pg_name (i := 3) sc_resolve.nd rfl (.inl rfl))) (fun _ _ _ _ _ => (mts_one (mt_cmp (op_ne2 (roomU64 hr)) o_ne2 (me_v (pv 3)) (me_v (pv 2)) (nomark _)))) (fun _ _ _ _ _ => (me_v (pv 3)))) (me_lc (own := [("own", 3)]) rfl sc_resolve.nd (mi_seq (me_v (pv 1))) (show BlkOk N_resolve (defScope s_resolve) _ _ from ⟨rfl, by decide +kernel, by decide +kernel, by decide +kernel, by decide +kernel⟩) (by decide) (fun _ _ _ _ _ => (pg_name (i := 3) sc_resolve.nd rfl (.inl rfl))) (fun _ _ _ _ _ => (mts_one (mt_cmp (op_ne2 (roomU64 hr)) o_ne2 (me_v (pv 3)) (me_op op_sub o_sub me_int (me_v (pv 2))) (nomark _)))) (fun _ _ _ _ _ => (me_v (pv 3))))) ma_nil))))
theorem ok_made_with (x : Fx w K mg) : Okf P w K mg base 3 (He.fAd K D_made_with.at_) ["clauses", "clause", "lit"] 3 p_made_with := by
  obtain ⟨fd, F⟩ := x.c.def_ 26 (d := D_made_with) rfl
  obtain ⟨fd_resolve, F_resolve, k_resolve, b_resolve⟩ := ok_resolve (P := P) (base := base) x
  have v_resolve : Vals [] [] := .nil
  refine ⟨fd, F.ok (k := 2) sc_made_with (fun vs H Q E h => h.1) (fun cdv A outer s H vs Q E hr h => ⟨tMs ⟨K, Gm K⟩ (EW E) b_made_with, PSs.nox ?_, runZ_ok (N := N_made_with) h⟩), F.kp, F.bindsN fun _ _ _ _ _ _ us hl => match us, hl with | [_, _, _], _ => rfl⟩
  exact (mss_one (ms_ret (me_lc (own := [("other", 3)]) rfl sc_made_with.nd (mi_seq (me_v (pv 0))) (show BlkOk N_made_with (defScope s_made_with) _ _ from ⟨rfl, by decide +kernel, by decide +kernel, by decide +kernel, by decide +kernel⟩) (by decide) (fun _ _ _ _ _ => (pg_name (i := 3) sc_made_with.nd rfl (.inl rfl))) (fun _ _ _ _ _ => (mts_one (mt_cmp (op_inA (roomU hr)) o_in (me_op op_sub o_sub me_int (me_v (pv 2))) (me_v (pv 3)) (by with_unfolding_all rfl)))) (fun _ _ _ _ _ => (me_call (F_resolve.mono (by decide)) hr rfl x.g_resolve k_resolve b_resolve v_resolve (fun _ _ => .nil) pz (ma_cons (me_v (pv 1)) (ma_cons (me_v (pv 3)) (ma_cons (me_v (pv 2)) ma_nil))))))))
theorem ok_goes_by (x : Fx w K mg) : Okf P w K mg base 4 (He.fAd K D_goes_by.at_) ["clauses", "clause", "lit"] 3 p_goes_by := by
  obtain ⟨fd, F⟩ := x.c.def_ 27 (d := D_goes_by) rfl
  obtain ⟨fd_made_with, F_made_with, k_made_with, b_made_with⟩ := ok_made_with (P := P) (base := base) x
  have v_made_with : Vals [] [] := .nil
  obtain ⟨fd_follows_of, F_follows_of, k_follows_of, b_follows_of⟩ := ok_follows_of (P := P) (base := base) x
  have v_follows_of : Vals [] [] := .nil
  refine ⟨fd, F.ok (k := 3) sc_goes_by (fun vs H Q E h => h.1) (fun cdv A outer s H vs Q E hr h => ⟨tMs ⟨K, Gm K⟩ (EW E) b_goes_by, PSs.nox ?_, runZ_ok (N := N_goes_by) h⟩), F.kp, F.bindsN fun _ _ _ _ _ _ us hl => match us, hl with | [_, _, _], _ => rfl⟩
  exact (mss_one (ms_ret (me_callB (cr_all rfl) ol_all x.f_all bt_all (ma_cons (me_lc (own := [("made", 3)]) rfl sc_goes_by.nd (mi_seq (me_call (F_made_with.mono (by decide)) hr rfl x.g_made_with k_made_with b_made_with v_made_with (fun _ _ => .nil) pz (ma_cons (me_v (pv 0)) (ma_cons (me_v (pv 1)) (ma_cons (me_v (pv 2)) ma_nil))))) (show BlkOk N_goes_by (defScope s_goes_by) _ _ from ⟨rfl, by decide +kernel, by decide +kernel, by decide +kernel, by decide +kernel⟩) (by decide) (fun _ _ _ _ _ => (pg_name (i := 3) sc_goes_by.nd rfl (.inl rfl))) (fun _ _ _ _ _ => mts_nil) (fun _ _ _ _ _ => (me_or (me_cmp op_isN o_isN (me_v (pv 3)) me_non (nomark _)) (me_one (me_call (F_follows_of.mono (by decide)) hr rfl x.g_follows_of k_follows_of b_follows_of v_follows_of (fun _ _ => .nil) pz (ma_cons (me_v (pv 0)) (ma_cons (me_v (pv 3)) ma_nil))))))) ma_nil))))
theorem ok_ground_takes_leave (x : Fx w K mg) : Okf P w K mg base 5 (He.fAd K D_ground_takes_leave.at_) ["self", "clause", "lit"] 3 p_ground_takes_leave := by
  obtain ⟨fd, F⟩ := x.c.def_ 28 (d := D_ground_takes_leave) rfl
  obtain ⟨fd_goes_by, F_goes_by, k_goes_by, b_goes_by⟩ := ok_goes_by (P := P) (base := base) x
  have v_goes_by : Vals [] [] := .nil
  obtain ⟨fd_ground_others, F_ground_others, k_ground_others, b_ground_others⟩ := ok_ground_others (P := P) (base := base) x
  have v_ground_others : Vals [] [] := .nil
  refine ⟨fd, F.ok (k := 4) sc_ground_takes_leave (fun vs H Q E h => h.1) (fun cdv A outer s H vs Q E hr h => ⟨tMs ⟨K, Gm K⟩ (EW E) b_ground_takes_leave, PSs.nox ?_, runK_ok (N := N_ground_takes_leave) h⟩), F.kp, F.bindsN fun _ _ _ _ _ _ us hl => match us, hl with | [_, _, _], _ => rfl⟩
  exact (mss_one (ms_ret (me_and (me_cmp (op_inA (roomU hr)) o_in (me_v (pv 1)) (me_fld (me_v (pv 0)) rfl x.c_Ground x.n_Ground_held rfl) (by with_unfolding_all rfl)) (me_one (me_call (F_goes_by.mono (by decide)) hr rfl x.g_goes_by k_goes_by b_goes_by v_goes_by (fun _ _ => .nil) pz (ma_cons (me_meth (me_v (pv 0)) rfl x.c_Ground x.m_Ground_others (F_ground_others.mono (by decide)) hr b_ground_others v_ground_others (fun _ _ => .nil) pz rfl (ma_cons (me_v (pv 1)) ma_nil)) (ma_cons (me_v (pv 1)) (ma_cons (me_v (pv 2)) ma_nil))))))))
theorem ok_ground_is_clean (x : Fx w K mg) : Okf P w K mg base 1 (He.fAd K D_ground_is_clean.at_) ["self", "clause", "start"] 3 p_ground_is_clean := by
  obtain ⟨fd, F⟩ := x.c.def_ 29 (d := D_ground_is_clean) rfl
  refine ⟨fd, F.ok (k := 0) sc_ground_is_clean (fun vs H Q E h => h.1) (fun cdv A outer s H vs Q E hr h => ⟨tMs ⟨K, Gm K⟩ (EW E) b_ground_is_clean, PSs.nox ?_, runK_ok (N := N_ground_is_clean) h⟩), F.kp, F.bindsN fun _ _ _ _ _ _ us hl => match us, hl with | [_, _, _], _ => rfl⟩
  exact (mss_one (ms_ret (me_not (me_callB (cr_any rfl) ol_any x.f_any bt_any (ma_cons (me_lc (own := [("lit", 3), ("left", 4)]) rfl sc_ground_is_clean.nd (mi_seq (me_slice (me_fld (me_v (pv 0)) rfl x.c_Ground x.n_Ground_tail rfl) (mo_some (me_v (pv 2))) mo_none)) (show BlkOk N_ground_is_clean (defScope s_ground_is_clean) _ _ from ⟨rfl, by decide +kernel, by decide +kernel, by decide +kernel, by decide +kernel⟩) (by decide) (fun _ _ _ _ _ => (pg_tp rfl (pgs_cons (pg_name (i := 3) sc_ground_is_clean.nd rfl (.inl rfl)) (pgs_cons (pg_name (i := 4) sc_ground_is_clean.nd rfl (.inl rfl)) pgs_nil)))) (fun _ _ _ _ _ => mts_nil) (fun _ _ _ _ _ => (me_cmp (op_inA (roomU hr)) o_in (me_op op_sub o_sub me_int (me_v (pv 3))) (me_v (pv 1)) (by with_unfolding_all rfl)))) ma_nil)))))
theorem ok_ground_has_room (x : Fx w K mg) : Okf P w K mg base 1 (He.fAd K D_ground_has_room.at_) ["self", "clause"] 2 p_ground_has_room := by
  obtain ⟨fd, F⟩ := x.c.def_ 30 (d := D_ground_has_room) rfl
  obtain ⟨t_MOST_CLAUSES, i_MOST_CLAUSES⟩ := x.i_MOST_CLAUSES
  refine ⟨fd, F.ok (k := 0) sc_ground_has_room (fun vs H Q E h => h.1) (fun cdv A outer s H vs Q E hr h => ⟨tMs ⟨K, Gm K⟩ (EW E) b_ground_has_room, PSs.nox ?_, runK_ok (N := N_ground_has_room) h⟩), F.kp, F.bindsN fun _ _ _ _ _ _ us hl => match us, hl with | [_, _], _ => rfl⟩
  exact (mss_one (ms_ret (me_or (me_cmp (op_inA (roomU hr)) o_in (me_v (pv 1)) (me_fld (me_fld (me_v (pv 0)) rfl x.c_Ground x.n_Ground_book rfl) rfl x.c_Book x.n_Book_clauses rfl) (by with_unfolding_all rfl)) (me_one (me_cmp op_lt o_lt (me_callB call_len_seq ol_len x.f_len bt_len (ma_cons (me_fld (me_fld (me_v (pv 0)) rfl x.c_Ground x.n_Ground_book rfl) rfl x.c_Book x.n_Book_clauses rfl) ma_nil)) (me_glob (av := .int 400) (v := .int _) i_MOST_CLAUSES ⟨_, rfl⟩ fun _ _ => .int _) (nomark _))))))
theorem ok_ground_takes_put (x : Fx w K mg) : Okf P w K mg base 3 (He.fAd K D_ground_takes_put.at_) ["self", "clause"] 2 p_ground_takes_put := by
  obtain ⟨fd, F⟩ := x.c.def_ 31 (d := D_ground_takes_put) rfl
  obtain ⟨fd_ground_is_near, F_ground_is_near, k_ground_is_near, b_ground_is_near⟩ := ok_ground_is_near (P := P) (base := base) x
  have v_ground_is_near : Vals [] [] := .nil
  obtain ⟨fd_ground_is_clean, F_ground_is_clean, k_ground_is_clean, b_ground_is_clean⟩ := ok_ground_is_clean (P := P) (base := base) x
  have v_ground_is_clean : Vals [] [] := .nil
  obtain ⟨fd_ground_has_room, F_ground_has_room, k_ground_has_room, b_ground_has_room⟩ := ok_ground_has_room (P := P) (base := base) x
  have v_ground_has_room : Vals [] [] := .nil
  refine ⟨fd, F.ok (k := 2) sc_ground_takes_put (fun vs H Q E h => h.1) (fun cdv A outer s H vs Q E hr h => ⟨tMs ⟨K, Gm K⟩ (EW E) b_ground_takes_put, PSs.nox ?_, runK_ok (N := N_ground_takes_put) h⟩), F.kp, F.bindsN fun _ _ _ _ _ _ us hl => match us, hl with | [_, _], _ => rfl⟩
  exact (mss_one (ms_ret (me_and (me_meth (me_v (pv 0)) rfl x.c_Ground x.m_Ground_is_near (F_ground_is_near.mono (by decide)) hr b_ground_is_near v_ground_is_near (fun _ _ => .nil) pz rfl (ma_cons (me_v (pv 1)) ma_nil)) (me_and (me_meth (me_v (pv 0)) rfl x.c_Ground x.m_Ground_is_clean (F_ground_is_clean.mono (by decide)) hr b_ground_is_clean v_ground_is_clean (fun _ _ => .nil) pz rfl (ma_cons (me_v (pv 1)) (ma_cons me_int ma_nil))) (me_one (me_meth (me_v (pv 0)) rfl x.c_Ground x.m_Ground_has_room (F_ground_has_room.mono (by decide)) hr b_ground_has_room v_ground_has_room (fun _ _ => .nil) pz rfl (ma_cons (me_v (pv 1)) ma_nil)))))))
end
end MM
set_option Elab.async false
set_option linter.all false
set_option maxRecDepth 100000
set_option maxHeartbeats 0
namespace MM
open PySem PySem.Spec PyProof.Rows L2
section
variable {P : Program} {w : World} {K : PySem.W.Frag} {mg : Str → Option Value} {base : Heap}
theorem ok_ground_takes_back (x : Fx w K mg) : Okf P w K mg base 2 (He.fAd K D_ground_takes_back.at_) ["self", "number"] 2 p_ground_takes_back := by
  obtain ⟨fd, F⟩ := x.c.def_ 32 (d := D_ground_takes_back) rfl
  obtain ⟨fd_ground_is_clean, F_ground_is_clean, k_ground_is_clean, b_ground_is_clean⟩ := ok_ground_is_clean (P := P) (base := base) x
  have v_ground_is_clean : Vals [] [] := .nil
  refine ⟨fd, F.ok (k := 1) sc_ground_takes_back (fun vs H Q E h => h.1) (fun cdv A outer s H vs Q E hr h => ⟨tMs ⟨K, Gm K⟩ (EW E) b_ground_takes_back, PSs.nox ?_, runK_ok (N := N_ground_takes_back) h⟩), F.kp, F.bindsN fun _ _ _ _ _ _ us hl => match us, hl with | [_, _], _ => rfl⟩
  exact (mss_one (ms_ret (me_and (me_cmp op_lt o_lt (me_v (pv 1)) (me_callB call_len_seq ol_len x.f_len bt_len (ma_cons (me_fld (me_v (pv 0)) rfl x.c_Ground x.n_Ground_tail rfl) ma_nil)) (nomark _)) (me_one (me_meth (me_v (pv 0)) rfl x.c_Ground x.m_Ground_is_clean (F_ground_is_clean.mono (by decide)) hr b_ground_is_clean v_ground_is_clean (fun _ _ => .nil) pz rfl (ma_cons (me_ix (me_ix (me_fld (me_v (pv 0)) rfl x.c_Ground x.n_Ground_tail rfl) (me_v (pv 1)) (by intro _ _; with_unfolding_all rfl)) me_int (by intro _ _; with_unfolding_all rfl)) (ma_cons (me_cat (me_v (pv 1)) me_int) ma_nil)))))))
theorem ok_ground_takes (x : Fx w K mg) : Okf P w K mg base 6 (He.fAd K D_ground_takes.at_) ["self", "line"] 2 p_ground_takes := by
  obtain ⟨fd, F⟩ := x.c.def_ 33 (d := D_ground_takes) rfl
  obtain ⟨fd_ground_takes_add, F_ground_takes_add, k_ground_takes_add, b_ground_takes_add⟩ := ok_ground_takes_add (P := P) (base := base) x
  have v_ground_takes_add : Vals [] [] := .nil
  obtain ⟨fd_ground_takes_found, F_ground_takes_found, k_ground_takes_found, b_ground_takes_found⟩ := ok_ground_takes_found (P := P) (base := base) x
  have v_ground_takes_found : Vals [] [] := .nil
  obtain ⟨fd_ground_takes_drop, F_ground_takes_drop, k_ground_takes_drop, b_ground_takes_drop⟩ := ok_ground_takes_drop (P := P) (base := base) x
  have v_ground_takes_drop : Vals [] [] := .nil
  obtain ⟨fd_ground_takes_leave, F_ground_takes_leave, k_ground_takes_leave, b_ground_takes_leave⟩ := ok_ground_takes_leave (P := P) (base := base) x
  have v_ground_takes_leave : Vals [] [] := .nil
  obtain ⟨fd_ground_takes_put, F_ground_takes_put, k_ground_takes_put, b_ground_takes_put⟩ := ok_ground_takes_put (P := P) (base := base) x
  have v_ground_takes_put : Vals [] [] := .nil
  obtain ⟨fd_ground_takes_back, F_ground_takes_back, k_ground_takes_back, b_ground_takes_back⟩ := ok_ground_takes_back (P := P) (base := base) x
  have v_ground_takes_back : Vals [] [] := .nil
  refine ⟨fd, F.ok (k := 5) sc_ground_takes (fun vs H Q E h => h.1) (fun cdv A outer s H vs Q E hr h => ⟨tMs ⟨K, Gm K⟩ (EW E) b_ground_takes, PSs.nox ?_, runK_ok (N := N_ground_takes) h⟩), F.kp, F.bindsN fun _ _ _ _ _ _ us hl => match us, hl with | [_, _], _ => rfl⟩
  exact (mss_cons (ms_asgG (me_v (pv 1)) (mg_star (es' := [.Name "word" ⟨205, 8, 205, 12⟩, .Name "rest" ⟨205, 15, 205, 19⟩]) rfl (pgs_cons (pg_name (i := 2) sc_ground_takes.nd rfl (.inl rfl)) (pgs_cons (pg_name (i := 3) sc_ground_takes.nd rfl (.inl rfl)) pgs_nil))))
  (mss_cons (ms_if (mt_cmp (op_eq2 (roomU64 hr)) o_eq2 (me_v (pv 2)) me_str (nomark _)) (mss_one (ms_ret (me_meth (me_v (pv 0)) rfl x.c_Ground x.m_Ground_takes_add (F_ground_takes_add.mono (by decide)) hr b_ground_takes_add v_ground_takes_add (fun _ _ => .nil) pz rfl (ma_cons (me_ix (me_v (pv 3)) me_int (by intro _ _; with_unfolding_all rfl)) ma_nil)))) mss_nil)
  (mss_cons (ms_if (mt_cmp (op_inA (roomU hr)) o_in (me_v (pv 2)) (me_tup (ma_cons me_str (ma_cons me_str ma_nil))) (by with_unfolding_all rfl)) (mss_one (ms_ret (me_meth (me_v (pv 0)) rfl x.c_Ground x.m_Ground_takes_found (F_ground_takes_found.mono (by decide)) hr b_ground_takes_found v_ground_takes_found (fun _ _ => .nil) pz rfl (ma_cons (me_ix (me_v (pv 3)) me_int (by intro _ _; with_unfolding_all rfl)) ma_nil)))) mss_nil)
  (mss_cons (ms_if (mt_cmp (op_eq2 (roomU64 hr)) o_eq2 (me_v (pv 2)) me_str (nomark _)) (mss_one (ms_ret (me_meth (me_v (pv 0)) rfl x.c_Ground x.m_Ground_takes_drop (F_ground_takes_drop.mono (by decide)) hr b_ground_takes_drop v_ground_takes_drop (fun _ _ => .nil) pz rfl (ma_cons (me_ix (me_v (pv 3)) me_int (by intro _ _; with_unfolding_all rfl)) ma_nil)))) mss_nil)
  (mss_cons (ms_if (mt_cmp (op_eq2 (roomU64 hr)) o_eq2 (me_v (pv 2)) me_str (nomark _)) (mss_one (ms_ret (me_meth (me_v (pv 0)) rfl x.c_Ground x.m_Ground_takes_leave (F_ground_takes_leave.mono (by decide)) hr b_ground_takes_leave v_ground_takes_leave (fun _ _ => .nil) pz rfl (ma_cons (me_ix (me_v (pv 3)) me_int (by intro _ _; with_unfolding_all rfl)) (ma_cons (me_ix (me_v (pv 3)) me_int (by intro _ _; with_unfolding_all rfl)) ma_nil))))) mss_nil)
  (mss_cons (ms_if (mt_cmp (op_eq2 (roomU64 hr)) o_eq2 (me_v (pv 2)) me_str (nomark _)) (mss_one (ms_ret (me_meth (me_v (pv 0)) rfl x.c_Ground x.m_Ground_takes_put (F_ground_takes_put.mono (by decide)) hr b_ground_takes_put v_ground_takes_put (fun _ _ => .nil) pz rfl (ma_cons (me_ix (me_v (pv 3)) me_int (by intro _ _; with_unfolding_all rfl)) ma_nil)))) mss_nil)
  (mss_one (ms_ret (me_meth (me_v (pv 0)) rfl x.c_Ground x.m_Ground_takes_back (F_ground_takes_back.mono (by decide)) hr b_ground_takes_back v_ground_takes_back (fun _ _ => .nil) pz rfl (ma_cons (me_ix (me_v (pv 3)) me_int (by intro _ _; with_unfolding_all rfl)) ma_nil))))))))))
theorem ok_with_one (x : Fx w K mg) : Okf P w K mg base 1 (He.fAd K D_with_one.at_) ["rows", "clause"] 2 p_with_one := by
  obtain ⟨fd, F⟩ := x.c.def_ 34 (d := D_with_one) rfl
  refine ⟨fd, F.ok (k := 0) sc_with_one (fun vs H Q E h => h.1) (fun cdv A outer s H vs Q E hr h => ⟨tMs ⟨K, Gm K⟩ (EW E) b_with_one, PSs.nox ?_, runZ_ok (N := N_with_one) h⟩), F.kp, F.bindsN fun _ _ _ _ _ _ us hl => match us, hl with | [_, _], _ => rfl⟩
  exact (mss_cons (ms_set (i := 2) sc_with_one.nd rfl (.inl rfl) (me_callTy (call_dictOf (roomU hr)) ol_dict x.f_dict bt_dict (ma_cons (me_v (pv 0)) ma_nil)))
  (mss_cons (ms_asgG me_bl (mg_item (W := EW E) (roomU1 hr) (me_v (pv 2)) (me_v (pv 1))))
  (mss_one (ms_ret (me_v (pv 2))))))
theorem ok_without (x : Fx w K mg) : Okf P w K mg base 1 (He.fAd K D_without.at_) ["rows", "clause"] 2 p_without := by
  obtain ⟨fd, F⟩ := x.c.def_ 35 (d := D_without) rfl
  refine ⟨fd, F.ok (k := 0) sc_without (fun vs H Q E h => h.1) (fun cdv A outer s H vs Q E hr h => ⟨tMs ⟨K, Gm K⟩ (EW E) b_without, PSs.nox ?_, runZ_ok (N := N_without) h⟩), F.kp, F.bindsN fun _ _ _ _ _ _ us hl => match us, hl with | [_, _], _ => rfl⟩
  exact (mss_one (ms_ret (me_dcTK (own := [("one", 2)]) (roomU1 hr) rfl sc_without.nd (det_v (pv 0)) (show BlkOk N_without (defScope s_without) _ _ from ⟨rfl, by decide +kernel, by decide +kernel, by decide +kernel, by decide +kernel⟩) (by decide) (fun _ _ _ _ _ => (pg_name (i := 2) sc_without.nd rfl (.inl rfl))) (fun _ _ _ _ _ => (mts_one (mt_cmp (op_ne2 (roomU64 hr)) o_ne2 (me_v (pv 2)) (me_v (pv 1)) (nomark _)))) (fun _ _ _ _ _ => (me_v (pv 2))) (fun _ _ _ _ _ => me_bl))))
theorem ok_ground_hold (x : Fx w K mg) : Okf P w K mg base 2 (He.fAd K D_ground_hold.at_) ["self", "clause"] 2 p_ground_hold := by
  obtain ⟨fd, F⟩ := x.c.def_ 36 (d := D_ground_hold) rfl
  obtain ⟨fd_with_one, F_with_one, k_with_one, b_with_one⟩ := ok_with_one (P := P) (base := base) x
  have v_with_one : Vals [] [] := .nil
  obtain ⟨fd_without, F_without, k_without, b_without⟩ := ok_without (P := P) (base := base) x
  have v_without : Vals [] [] := .nil
  refine ⟨fd, F.ok (k := 1) sc_ground_hold (fun vs H Q E h => h.1) (fun cdv A outer s H vs Q E hr h => ⟨tMs ⟨K, Gm K⟩ (EW E) b_ground_hold, PSs.nox ?_, runK_ok (N := N_ground_hold) h⟩), F.kp, F.bindsN fun _ _ _ _ _ _ us hl => match us, hl with | [_, _], _ => rfl⟩
  exact (mss_cons (ms_fld (me_v (pv 0)) (me_call (F_with_one.mono (by decide)) hr rfl x.g_with_one k_with_one b_with_one v_with_one (fun _ _ => .nil) pz (ma_cons (me_fld (me_v (pv 0)) rfl x.c_Ground x.n_Ground_held rfl) (ma_cons (me_v (pv 1)) ma_nil))) rfl x.c_Ground x.n_Ground_held rfl)
  (mss_one (ms_fld (me_v (pv 0)) (me_call (F_without.mono (by decide)) hr rfl x.g_without k_without b_without v_without (fun _ _ => .nil) pz (ma_cons (me_fld (me_v (pv 0)) rfl x.c_Ground x.n_Ground_found rfl) (ma_cons (me_v (pv 1)) ma_nil))) rfl x.c_Ground x.n_Ground_found rfl)))
theorem ok_ground_lose (x : Fx w K mg) : Okf P w K mg base 2 (He.fAd K D_ground_lose.at_) ["self", "clause"] 2 p_ground_lose := by
  obtain ⟨fd, F⟩ := x.c.def_ 37 (d := D_ground_lose) rfl
  obtain ⟨fd_without, F_without, k_without, b_without⟩ := ok_without (P := P) (base := base) x
  have v_without : Vals [] [] := .nil
  refine ⟨fd, F.ok (k := 1) sc_ground_lose (fun vs H Q E h => h.1) (fun cdv A outer s H vs Q E hr h => ⟨tMs ⟨K, Gm K⟩ (EW E) b_ground_lose, PSs.nox ?_, runK_ok (N := N_ground_lose) h⟩), F.kp, F.bindsN fun _ _ _ _ _ _ us hl => match us, hl with | [_, _], _ => rfl⟩
  exact (mss_cons (ms_fld (me_v (pv 0)) (me_call (F_without.mono (by decide)) hr rfl x.g_without k_without b_without v_without (fun _ _ => .nil) pz (ma_cons (me_fld (me_v (pv 0)) rfl x.c_Ground x.n_Ground_held rfl) (ma_cons (me_v (pv 1)) ma_nil))) rfl x.c_Ground x.n_Ground_held rfl)
  (mss_one (ms_fld (me_v (pv 0)) (me_call (F_without.mono (by decide)) hr rfl x.g_without k_without b_without v_without (fun _ _ => .nil) pz (ma_cons (me_fld (me_v (pv 0)) rfl x.c_Ground x.n_Ground_found rfl) (ma_cons (me_v (pv 1)) ma_nil))) rfl x.c_Ground x.n_Ground_found rfl)))
theorem ok_ground_do (x : Fx w K mg) : Okf P w K mg base 3 (He.fAd K D_ground_do.at_) ["self", "line"] 2 p_ground_do := by
  obtain ⟨fd, F⟩ := x.c.def_ 38 (d := D_ground_do) rfl
  obtain ⟨fd_with_one, F_with_one, k_with_one, b_with_one⟩ := ok_with_one (P := P) (base := base) x
  have v_with_one : Vals [] [] := .nil
  obtain ⟨fd_ground_hold, F_ground_hold, k_ground_hold, b_ground_hold⟩ := ok_ground_hold (P := P) (base := base) x
  have v_ground_hold : Vals [] [] := .nil
  obtain ⟨fd_ground_lose, F_ground_lose, k_ground_lose, b_ground_lose⟩ := ok_ground_lose (P := P) (base := base) x
  have v_ground_lose : Vals [] [] := .nil
  refine ⟨fd, F.ok (k := 2) sc_ground_do (fun vs H Q E h => h.1) (fun cdv A outer s H vs Q E hr h => ⟨tMs ⟨K, Gm K⟩ (EW E) b_ground_do, PSs.nox ?_, runK_ok (N := N_ground_do) h⟩), F.kp, F.bindsN fun _ _ _ _ _ _ us hl => match us, hl with | [_, _], _ => rfl⟩
  exact (mss_cons (ms_asgG (me_v (pv 1)) (mg_star (es' := [.Name "word" ⟨227, 8, 227, 12⟩, .Name "rest" ⟨227, 15, 227, 19⟩]) rfl (pgs_cons (pg_name (i := 2) sc_ground_do.nd rfl (.inl rfl)) (pgs_cons (pg_name (i := 3) sc_ground_do.nd rfl (.inr rfl)) pgs_nil))))
  (mss_one (ms_if (mt_cmp (op_eq2 (roomU64 hr)) o_eq2 (me_v (pv 2)) me_str (nomark _)) (mss_one (ms_fld (me_v (pv 0)) (me_call (F_with_one.mono (by decide)) hr rfl x.g_with_one k_with_one b_with_one v_with_one (fun _ _ => .nil) pz (ma_cons (me_fld (me_v (pv 0)) rfl x.c_Ground x.n_Ground_found rfl) (ma_cons (me_ix (me_v (pv 3)) me_int (by intro _ _; with_unfolding_all rfl)) ma_nil))) rfl x.c_Ground x.n_Ground_found rfl)) (mss_one (ms_if (mt_cmp (op_eq2 (roomU64 hr)) o_eq2 (me_v (pv 2)) me_str (nomark _)) (mss_one (ms_exp (me_meth (me_v (pv 0)) rfl x.c_Ground x.m_Ground_hold (F_ground_hold.mono (by decide)) hr b_ground_hold v_ground_hold (fun _ _ => .nil) pz rfl (ma_cons (me_ix (me_v (pv 3)) me_int (by intro _ _; with_unfolding_all rfl)) ma_nil)))) (mss_one (ms_if (mt_cmp (op_eq2 (roomU64 hr)) o_eq2 (me_v (pv 2)) me_str (nomark _)) (mss_cons ms_stuck
  (mss_one (ms_exp (me_meth (me_v (pv 0)) rfl x.c_Ground x.m_Ground_hold (F_ground_hold.mono (by decide)) hr b_ground_hold v_ground_hold (fun _ _ => .nil) pz rfl (ma_cons (me_ix (me_v (pv 3)) me_int (by intro _ _; with_unfolding_all rfl)) ma_nil))))) (mss_one (ms_if (mt_cmp (op_eq2 (roomU64 hr)) o_eq2 (me_v (pv 2)) me_str (nomark _)) (mss_cons (ms_asgG (me_ix (me_fld (me_v (pv 0)) rfl x.c_Ground x.n_Ground_tail rfl) (me_ix (me_v (pv 3)) me_int (by intro _ _; with_unfolding_all rfl)) (by intro _ _; with_unfolding_all rfl)) (mg_set (tt := (.tp [4, 5])) (pg_tp rfl (pgs_cons (pg_name (i := 4) sc_ground_do.nd rfl (.inl rfl)) (pgs_cons (pg_name (i := 5) sc_ground_do.nd rfl (.inl rfl)) pgs_nil)))))
  (mss_cons (ms_fld (me_v (pv 0)) (me_lc (own := [("at", 6), ("entry", 7)]) rfl sc_ground_do.nd (mi_enum x.f_enumerate (me_fld (me_v (pv 0)) rfl x.c_Ground x.n_Ground_tail rfl)) (show BlkOk N_ground_do (defScope s_ground_do) _ _ from ⟨rfl, by decide +kernel, by decide +kernel, by decide +kernel, by decide +kernel⟩) (by decide) (fun _ _ _ _ _ => (pg_tp rfl (pgs_cons (pg_name (i := 6) sc_ground_do.nd rfl (.inl rfl)) (pgs_cons (pg_name (i := 7) sc_ground_do.nd rfl (.inl rfl)) pgs_nil)))) (fun _ _ _ _ _ => (mts_one (mt_cmp (op_ne2 (roomU64 hr)) o_ne2 (me_v (pv 6)) (me_ix (me_v (pv 3)) me_int (by intro _ _; with_unfolding_all rfl)) (nomark _)))) (fun _ _ _ _ _ => (me_v (pv 7)))) rfl x.c_Ground x.n_Ground_tail rfl)
  (mss_one (ms_exp (me_meth (me_v (pv 0)) rfl x.c_Ground x.m_Ground_hold (F_ground_hold.mono (by decide)) hr b_ground_hold v_ground_hold (fun _ _ => .nil) pz rfl (ma_cons (me_v (pv 5)) ma_nil)))))) (mss_cons (ms_exp (me_meth (me_v (pv 0)) rfl x.c_Ground x.m_Ground_lose (F_ground_lose.mono (by decide)) hr b_ground_lose v_ground_lose (fun _ _ => .nil) pz rfl (ma_cons (me_ix (me_v (pv 3)) me_int (by intro _ _; with_unfolding_all rfl)) ma_nil)))
  (mss_one (ms_if (mt_cmp (op_eq2 (roomU64 hr)) o_eq2 (me_v (pv 2)) me_str (nomark _)) (mss_one (ms_fld (me_v (pv 0)) (me_cat (me_fld (me_v (pv 0)) rfl x.c_Ground x.n_Ground_tail rfl) (me_lst (ma_cons (me_tup (ma_cons (me_ix (me_v (pv 3)) me_int (by intro _ _; with_unfolding_all rfl)) (ma_cons (me_ix (me_v (pv 3)) me_int (by intro _ _; with_unfolding_all rfl)) ma_nil))) ma_nil))) rfl x.c_Ground x.n_Ground_tail rfl)) mss_nil))))))))))))
theorem ok_ground_by (x : Fx w K mg) : Okf P w K mg base 7 (He.fAd K D_ground_by.at_) ["book", "lines"] 2 p_ground_by := by
  obtain ⟨fd, F⟩ := x.c.def_ 39 (d := D_ground_by) rfl
  obtain ⟨fd_ground_init, F_ground_init, k_ground_init, b_ground_init⟩ := ok_ground_init (P := P) (base := base) x
  have v_ground_init : Vals [] [] := .nil
  obtain ⟨fd_is_line, F_is_line, k_is_line, b_is_line⟩ := ok_is_line (P := P) (base := base) x
  have v_is_line : Vals [] [] := .nil
  obtain ⟨fd_ground_takes, F_ground_takes, k_ground_takes, b_ground_takes⟩ := ok_ground_takes (P := P) (base := base) x
  have v_ground_takes : Vals [] [] := .nil
  obtain ⟨fd_ground_do, F_ground_do, k_ground_do, b_ground_do⟩ := ok_ground_do (P := P) (base := base) x
  have v_ground_do : Vals [] [] := .nil
  refine ⟨fd, F.ok (k := 6) sc_ground_by (fun vs H Q E h => h.1) (fun cdv A outer s H vs Q E hr h => ⟨tMs ⟨K, Gm K⟩ (EW E) b_ground_by, PSs.nox ?_, runK_ok (N := N_ground_by) h⟩), F.kp, F.bindsN fun _ _ _ _ _ _ us hl => match us, hl with | [_, _], _ => rfl⟩
  exact (mss_cons (ms_set (i := 2) sc_ground_by.nd rfl (.inl rfl) (me_make x.mk_Ground (F_ground_init.mono (by decide)) hr rfl x.g_Ground rfl b_ground_init v_ground_init (fun _ _ => .nil) pz (ma_cons (me_v (pv 0)) ma_nil)))
  (mss_cons (ms_for PassesOwn.never rfl (mi_enum x.f_enumerate (me_v (pv 1))) (pg_tp rfl (pgs_cons (pg_name (i := 3) sc_ground_by.nd rfl (.inl rfl)) (pgs_cons (pg_name (i := 4) sc_ground_by.nd rfl (.inl rfl)) pgs_nil))) (mss_cons (ms_if (mt_w (mw_or (mt_not (mt_val (me_call (F_is_line.mono (by decide)) hr rfl x.g_is_line k_is_line b_is_line v_is_line (fun _ _ => .nil) pz (ma_cons (me_v (pv 4)) ma_nil)))) (mw_or1 (mt_not (mt_val (me_meth (me_v (pv 2)) rfl x.c_Ground x.m_Ground_takes (F_ground_takes.mono (by decide)) hr b_ground_takes v_ground_takes (fun _ _ => .nil) pz rfl (ma_cons (me_v (pv 4)) ma_nil))))))) mss_stuck mss_nil)
  (mss_one (ms_exp (me_meth (me_v (pv 2)) rfl x.c_Ground x.m_Ground_do (F_ground_do.mono (by decide)) hr b_ground_do v_ground_do (fun _ _ => .nil) pz rfl (ma_cons (me_v (pv 4)) ma_nil))))))
  (mss_one (ms_ret (me_v (pv 2))))))
end
end MM
set_option Elab.async false
set_option linter.all false
set_option maxRecDepth 100000
set_option maxHeartbeats 0
namespace MM
open PySem PySem.Spec PyProof.Rows L2
section
variable {P : Program} {w : World} {K : PySem.W.Frag} {mg : Str → Option Value} {base : Heap}
theorem ok_gone (x : Fx w K mg) : Okf P w K mg base 8 (He.fAd K D_gone.at_) ["book", "log"] 2 p_gone := by
  obtain ⟨fd, F⟩ := x.c.def_ 40 (d := D_gone) rfl
  obtain ⟨fd_check_book, F_check_book, k_check_book, b_check_book⟩ := ok_check_book (P := P) (base := base) x
  have v_check_book : Vals [] [] := .nil
  obtain ⟨fd_standing_init, F_standing_init, k_standing_init, b_standing_init⟩ := ok_standing_init (P := P) (base := base) x
  have v_standing_init : Vals [] [] := .nil
  obtain ⟨fd_ground_by, F_ground_by, k_ground_by, b_ground_by⟩ := ok_ground_by (P := P) (base := base) x
  have v_ground_by : Vals [] [] := .nil
  refine ⟨fd, F.ok (k := 7) sc_gone (fun vs H Q E h => h.1) (fun cdv A outer s H vs Q E hr h => ⟨tMs ⟨K, Gm K⟩ (EW E) b_gone, PSs.nox ?_, runZ_ok (N := N_gone) h⟩), F.kp, F.bindsN fun _ _ _ _ _ _ us hl => match us, hl with | [_, _], _ => rfl⟩
  exact (mss_cons (ms_exp (me_call (F_check_book.mono (by decide)) hr rfl x.g_check_book k_check_book b_check_book v_check_book (fun _ _ => .nil) pz (ma_cons (me_v (pv 0)) ma_nil)))
  (mss_cons (ms_if (mt_not (mt_val (me_callB call_isiA (ol_isiA (x.ins rfl)) x.f_isinstance bt_isinstance (ma_cons (me_v (pv 1)) (ma_cons (me_ty x.f_tuple bt_tuple) ma_nil))))) mss_stuck mss_nil)
  (mss_one (ms_ret (me_make x.mk_Standing (F_standing_init.mono (by decide)) hr rfl x.g_Standing rfl b_standing_init v_standing_init (fun _ _ => .nil) pz (ma_cons (me_call (F_ground_by.mono (by decide)) hr rfl x.g_ground_by k_ground_by b_ground_by v_ground_by (fun _ _ => .nil) pz (ma_cons (me_v (pv 0)) (ma_cons (me_v (pv 1)) ma_nil))) ma_nil))))))
theorem ok_law_things (x : Fx w K mg) : Okf P w K mg base 9 (He.fAd K D_law_things.at_) [] 0 p_law_things := by
  obtain ⟨fd, F⟩ := x.c.def_ 41 (d := D_law_things) rfl
  obtain ⟨fd_book_init, F_book_init, k_book_init, b_book_init⟩ := ok_book_init (P := P) (base := base) x
  have v_book_init : Vals [] [] := .nil
  obtain ⟨fd_work_init, ds_work_init, F_work_init, k_work_init, b_work_init, v_work_init⟩ := ok_work_init (P := P) (base := base) x
  obtain ⟨fd_gone, F_gone, k_gone, b_gone⟩ := ok_gone (P := P) (base := base) x
  have v_gone : Vals [] [] := .nil
  refine ⟨fd, F.ok (k := 8) sc_law_things (fun vs H Q E h => h.1) (fun cdv A outer s H vs Q E hr h => ⟨tMs ⟨K, Gm K⟩ (EW E) b_law_things, PSs.nox ?_, runZ_ok (N := N_law_things) h⟩), F.kp, F.bindsN fun _ _ _ _ _ _ us hl => match us, hl with | [], _ => rfl⟩
  exact (mss_cons (ms_set (i := 0) sc_law_things.nd rfl (.inl rfl) (me_lst (ma_cons me_non (ma_cons me_int (ma_cons me_bl (ma_cons me_bl (ma_cons (me_un un_neg o_neg me_int) (ma_cons (me_op op_pow o_pow me_int me_int) (ma_cons me_str (ma_cons me_str (ma_cons me_str (ma_cons (me_tup ma_nil) (ma_cons (me_lst ma_nil) (ma_cons me_empT (ma_cons (me_tup (ma_cons me_int ma_nil)) (ma_cons (me_lst (ma_cons me_int ma_nil)) (ma_cons me_dk1 (ma_cons (me_tup (ma_cons (me_tup ma_nil) ma_nil)) (ma_cons (me_tup (ma_cons (me_lst ma_nil) ma_nil)) (ma_cons (me_tup (ma_cons me_empT ma_nil)) ma_nil))))))))))))))))))))
  (mss_cons (ms_set (i := 0) sc_law_things.nd rfl (.inl rfl) (me_cat (me_v (pv 0)) (me_lst (ma_cons (me_makeZ x.mk_Book (F_book_init.mono (by decide)) hr rfl x.g_Book rfl b_book_init v_book_init (fun _ _ => .nil) pz (ma_cons me_int (ma_cons (me_tup (ma_cons (me_tup (ma_cons me_int ma_nil)) ma_nil)) ma_nil))) (ma_cons (me_makeZ x.mk_Work (F_work_init.mono (by decide)) hr rfl x.g_Work rfl b_work_init v_work_init (fun _ _ => .cons (.int _) .nil) pz (ma_cons (me_makeZ x.mk_Book (F_book_init.mono (by decide)) hr rfl x.g_Book rfl b_book_init v_book_init (fun _ _ => .nil) pz (ma_cons me_int (ma_cons (me_tup ma_nil) ma_nil))) ma_nil)) (ma_cons (me_call (F_gone.mono (by decide)) hr rfl x.g_gone k_gone b_gone v_gone (fun _ _ => .nil) pz (ma_cons (me_makeZ x.mk_Book (F_book_init.mono (by decide)) hr rfl x.g_Book rfl b_book_init v_book_init (fun _ _ => .nil) pz (ma_cons me_int (ma_cons (me_tup ma_nil) ma_nil))) (ma_cons (me_tup ma_nil) ma_nil))) (ma_cons (me_tup (ma_cons me_non (ma_cons me_non ma_nil))) (ma_cons (me_tup (ma_cons (me_tup (ma_cons me_str (ma_cons (me_tup ma_nil) ma_nil))) ma_nil)) ma_nil))))))))
  (mss_cons (ms_set (i := 1) sc_law_things.nd rfl (.inl rfl) (me_tup (ma_cons me_int ma_nil)))
  (mss_cons (ms_for PassesOwn.never rfl (mi_range1 x.f_range (ma_cons me_int ma_nil)) (pg_name (i := 2) sc_law_things.nd rfl (.inl rfl)) (mss_one (ms_set (i := 1) sc_law_things.nd rfl (.inl rfl) (me_tup (ma_cons (me_v (pv 1)) (ma_cons (me_lst (ma_cons (me_v (pv 1)) ma_nil)) (ma_cons me_str ma_nil)))))))
  (mss_one (ms_ret (me_cat (me_v (pv 0)) (me_lst (ma_cons (me_v (pv 1)) (ma_cons (me_tup (ma_cons me_str (ma_cons (me_tup (ma_cons me_int ma_nil)) ma_nil))) (ma_cons (me_tup (ma_cons me_int (ma_cons (me_un un_neg o_neg me_int) ma_nil))) (ma_cons (me_tup (ma_cons (me_tup (ma_cons me_int (ma_cons me_int ma_nil))) (ma_cons (me_tup (ma_cons me_int (ma_cons me_int ma_nil))) ma_nil))) (ma_cons (me_lst (ma_cons (me_tup (ma_cons me_str (ma_cons (me_tup ma_nil) ma_nil))) ma_nil)) (ma_cons me_str (ma_cons (me_tup (ma_cons (me_tup (ma_cons me_bl ma_nil)) ma_nil)) (ma_cons me_int (ma_cons me_int ma_nil)))))))))))))))))
theorem ok_law_purse (x : Fx w K mg) : Okf P w K mg base 1 (He.fAd K D_law_purse.at_) ["_law_cell_here"] 1 p_law_purse := by
  obtain ⟨fd, F⟩ := x.c.def_ 42 (d := D_law_purse) rfl
  refine ⟨fd, F.ok (k := 0) sc_law_purse (fun vs H Q E h => h.1) (fun cdv A outer s H vs Q E hr h => ⟨tMs ⟨K, Gm K⟩ (EW E) b_law_purse, PSs.nox ?_, runK_ok (N := N_law_purse) h⟩), F.kp, F.bindsN fun _ _ _ _ _ _ us hl => match us, hl with | [_], _ => rfl⟩
  exact (mss_one (ms_ret (me_new (ma_cons (me_cat (me_rep (me_op op_mod o_mod (me_v (pv 0)) me_int) me_int) me_int) (ma_cons (me_ix (me_lst (ma_cons me_int (ma_cons (me_v (pv 0)) ma_nil))) (me_callTy call_int1 ol_int x.f_int bt_int (ma_cons (me_cmp op_ge o_ge (me_v (pv 0)) (me_op op_pow o_pow me_int me_int) (nomark _)) ma_nil)) (by intro _ _; with_unfolding_all rfl)) (ma_cons me_int ma_nil))))))
theorem ok_law_cell (x : Fx w K mg) : Okf P w K mg base 1 (He.fAd K D_law_cell.at_) ["_law_script", "_law_k"] 2 p_law_cell := by
  obtain ⟨fd, F⟩ := x.c.def_ 43 (d := D_law_cell) rfl
  refine ⟨fd, F.ok (k := 0) sc_law_cell (fun vs H Q E h => h.1) (fun cdv A outer s H vs Q E hr h => ⟨tMs ⟨K, Gm K⟩ (EW E) b_law_cell, PSs.nox ?_, runZ_ok (N := N_law_cell) h⟩), F.kp, F.bindsN fun _ _ _ _ _ _ us hl => match us, hl with | [_, _], _ => rfl⟩
  exact (mss_cons (ms_if (mt_cmp op_lt o_lt (me_v (pv 1)) (me_callB call_len_seq ol_len x.f_len bt_len (ma_cons (me_v (pv 0)) ma_nil)) (nomark _)) (mss_one (ms_ret (me_ix (me_v (pv 0)) (me_v (pv 1)) (by intro _ _; with_unfolding_all rfl)))) mss_nil)
  (mss_cons (ms_set (i := 2) sc_law_cell.nd rfl (.inl rfl) (me_op op_mod o_mod (me_rep me_int (me_cat (me_cat (me_rep (me_v (pv 1)) (me_v (pv 1))) (me_rep me_int (me_v (pv 1)))) me_int)) me_int))
  (mss_cons (ms_for PassesOwn.never rfl (mi_seq (me_slice (me_v (pv 0)) mo_none (mo_some me_int))) (pg_name (i := 3) sc_law_cell.nd rfl (.inl rfl)) (mss_one (ms_set (i := 2) sc_law_cell.nd rfl (.inl rfl) (me_op op_mod o_mod (me_cat (me_rep (me_v (pv 2)) me_int) (me_v (pv 3))) me_int))))
  (mss_one (ms_ret (me_v (pv 2)))))))
theorem ok_law_pick (x : Fx w K mg) : Okf P w K mg base 1 (He.fAd K D_law_pick.at_) ["_law_purse_here", "_law_many"] 2 p_law_pick := by
  obtain ⟨fd, F⟩ := x.c.def_ 44 (d := D_law_pick) rfl
  refine ⟨fd, F.ok (k := 0) sc_law_pick (fun vs H Q E h => h.1) (fun cdv A outer s H vs Q E hr h => ⟨tMs ⟨K, Gm K⟩ (EW E) b_law_pick, PSs.nox ?_, runK_ok (N := N_law_pick) h⟩), F.kp, F.bindsN fun _ _ _ _ _ _ us hl => match us, hl with | [_, _], _ => rfl⟩
  exact (mss_cons (ms_asgG (me_cat (me_ix (me_v (pv 0)) me_int (by intro _ _; with_unfolding_all rfl)) me_int) (mg_item (W := EW E) (roomU1 hr) (me_v (pv 0)) me_int))
  (mss_cons (ms_set (i := 2) sc_law_pick.nd rfl (.inl rfl) (me_op op_mod o_mod (me_ix (me_v (pv 0)) me_int (by intro _ _; with_unfolding_all rfl)) me_int))
  (mss_cons (ms_asgG (me_cat (me_rep (me_v (pv 2)) (me_cat (me_op op_mod o_mod (me_v (pv 2)) me_int) me_int)) (me_rep me_int (me_ix (me_v (pv 0)) me_int (by intro _ _; with_unfolding_all rfl)))) (mg_item (W := EW E) (roomU1 hr) (me_v (pv 0)) me_int))
  (mss_cons (ms_if (mt_cmp op_gt o_gt (me_ix (me_v (pv 0)) me_int (by intro _ _; with_unfolding_all rfl)) me_int (nomark _)) (mss_cons (ms_set (i := 3) sc_law_pick.nd rfl (.inl rfl) (me_op op_mod o_mod (me_ix (me_v (pv 0)) me_int (by intro _ _; with_unfolding_all rfl)) (me_v (pv 1))))
  (mss_cons (ms_asgG (me_op op_fdiv o_fdiv (me_ix (me_v (pv 0)) me_int (by intro _ _; with_unfolding_all rfl)) (me_v (pv 1))) (mg_item (W := EW E) (roomU1 hr) (me_v (pv 0)) me_int))
  (mss_one (ms_ret (me_v (pv 3)))))) mss_nil)
  (mss_one (ms_ret (me_op op_mod o_mod (me_op op_fdiv o_fdiv (me_op op_mod o_mod (me_ix (me_v (pv 0)) me_int (by intro _ _; with_unfolding_all rfl)) me_int) me_int) (me_v (pv 1)))))))))
theorem ok_law_is_fit (x : Fx w K mg) : Okf P w K mg base 1 (He.fAd K D_law_is_fit.at_) ["_law_number", "_law_thing"] 2 p_law_is_fit := by
  obtain ⟨fd, F⟩ := x.c.def_ 45 (d := D_law_is_fit) rfl
  refine ⟨fd, F.ok (k := 0) sc_law_is_fit (fun vs H Q E h => h.1) (fun cdv A outer s H vs Q E hr h => ⟨tMs ⟨K, Gm K⟩ (EW E) b_law_is_fit, PSs.nox ?_, runZ_ok (N := N_law_is_fit) h⟩), F.kp, F.bindsN fun _ _ _ _ _ _ us hl => match us, hl with | [_, _], _ => rfl⟩
  exact (mss_cons (ms_if (mt_cmp (op_eq2 (roomU64 hr)) o_eq2 (me_v (pv 0)) me_int (nomark _)) (mss_one (ms_ret (me_and (me_callB call_isiA (ol_isiA (x.ins rfl)) x.f_isinstance bt_isinstance (ma_cons (me_v (pv 1)) (ma_cons (me_ty x.f_int bt_int) ma_nil))) (me_and (me_not (me_callB call_isiA (ol_isiA (x.ins rfl)) x.f_isinstance bt_isinstance (ma_cons (me_v (pv 1)) (ma_cons (me_ty x.f_bool bt_bool) ma_nil)))) (me_one (me_chain op_le op_le o_le o_le me_int (me_v (pv 1)) me_int)))))) mss_nil)
  (mss_one (ms_ret (me_callB call_isiA (ol_isiA (x.ins rfl)) x.f_isinstance bt_isinstance (ma_cons (me_v (pv 1)) (ma_cons (me_ty x.f_tuple bt_tuple) ma_nil))))))
theorem ok_book_eq (x : Fx w K mg) : Okf P w K mg base 1 (He.fAd K D_book_eq.at_) ["self", "other"] 2 p_book_eq := by
  obtain ⟨fd, F⟩ := x.c.def_ 46 (d := D_book_eq) rfl
  refine ⟨fd, F.ok (k := 0) sc_book_eq (fun vs H Q E h => h.1) (fun cdv A outer s H vs Q E hr h => ⟨tMs ⟨K, Gm K⟩ (EW E) b_book_eq, PSs.nox ?_, runZ_ok (N := N_book_eq) h⟩), F.kp, F.bindsN fun _ _ _ _ _ _ us hl => match us, hl with | [_, _], _ => rfl⟩
  exact (mss_cons (ms_if (mt_not (mt_val (me_callB call_isiA (ol_isiA (x.ins rfl)) x.f_isinstance bt_isinstance (ma_cons (me_v (pv 1)) (ma_cons (me_glob (av := .glo "Book") (v := .ref _) x.g_Book rfl fun _ _ => .glo rfl) ma_nil))))) (mss_one (ms_ret me_bl)) mss_nil)
  (mss_one ms_stuck))
theorem ok_standing_eq (x : Fx w K mg) : Okf P w K mg base 1 (He.fAd K D_standing_eq.at_) ["self", "other"] 2 p_standing_eq := by
  obtain ⟨fd, F⟩ := x.c.def_ 47 (d := D_standing_eq) rfl
  refine ⟨fd, F.ok (k := 0) sc_standing_eq (fun vs H Q E h => h.1) (fun cdv A outer s H vs Q E hr h => ⟨tMs ⟨K, Gm K⟩ (EW E) b_standing_eq, PSs.nox ?_, runZ_ok (N := N_standing_eq) h⟩), F.kp, F.bindsN fun _ _ _ _ _ _ us hl => match us, hl with | [_, _], _ => rfl⟩
  exact (mss_cons (ms_if (mt_w (mw_or (mt_not (mt_val (me_callB call_isiA (ol_isiA (x.ins rfl)) x.f_isinstance bt_isinstance (ma_cons (me_v (pv 1)) (ma_cons (me_glob (av := .glo "Standing") (v := .ref _) x.g_Standing rfl fun _ _ => .glo rfl) ma_nil))))) (mw_or1 mt_stuck))) (mss_one (ms_ret me_bl)) mss_nil)
  (mss_one ms_stuck))
end
end MM
set_option Elab.async false
set_option linter.all false
set_option maxRecDepth 100000
set_option maxHeartbeats 0
namespace MM
open PySem PySem.Spec PyProof.Rows L2
section
variable {P : Program} {w : World} {K : PySem.W.Frag} {mg : Str → Option Value} {base : Heap}
theorem ok_work_eq (x : Fx w K mg) : Okf P w K mg base 1 (He.fAd K D_work_eq.at_) ["self", "other"] 2 p_work_eq := by
  obtain ⟨fd, F⟩ := x.c.def_ 48 (d := D_work_eq) rfl
  refine ⟨fd, F.ok (k := 0) sc_work_eq (fun vs H Q E h => h.1) (fun cdv A outer s H vs Q E hr h => ⟨tMs ⟨K, Gm K⟩ (EW E) b_work_eq, PSs.nox ?_, runZ_ok (N := N_work_eq) h⟩), F.kp, F.bindsN fun _ _ _ _ _ _ us hl => match us, hl with | [_, _], _ => rfl⟩
  exact (mss_cons (ms_if (mt_w (mw_or (mt_not (mt_val (me_callB call_isiA (ol_isiA (x.ins rfl)) x.f_isinstance bt_isinstance (ma_cons (me_v (pv 1)) (ma_cons (me_glob (av := .glo "Work") (v := .ref _) x.g_Work rfl fun _ _ => .glo rfl) ma_nil))))) (mw_or1 mt_stuck))) (mss_one (ms_ret me_bl)) mss_nil)
  (mss_one ms_stuck))
theorem eqs_ok (x : Fx w K mg) {X : Cx} (h1 : X.prog = P) (h2 : X.w = w) (h3 : X.K = K) (h4 : X.mg = mg) (h5 : X.base = base) : EqsOk X (Gm X.K) 1 eqsL := by
  subst h1 h2 h3 h4 h5
  obtain ⟨fd_book_eq, F_book_eq, k_book_eq, b_book_eq⟩ := ok_book_eq (P := X.prog) (base := X.base) x
  obtain ⟨fd_standing_eq, F_standing_eq, k_standing_eq, b_standing_eq⟩ := ok_standing_eq (P := X.prog) (base := X.base) x
  obtain ⟨fd_work_eq, F_work_eq, k_work_eq, b_work_eq⟩ := ok_work_eq (P := X.prog) (base := X.base) x
  refine ⟨fun q hq => ?_⟩
  simp only [eqsL, List.mem_cons, List.not_mem_nil, or_false] at hq
  rcases hq with rfl | rfl | rfl
  · exact ⟨_, _, fd_book_eq, _, rfl, F_book_eq.mono (by decide), b_book_eq, (eqsB_ok x.owe (x := "Book") (by decide)).1, x.m_Book___eq__.at_, x.m_Book___eq__.fn, (eqsB_ok x.owe (x := "Book") (by decide)).2.1, (eqsB_ok x.owe (x := "Book") (by decide)).2.2⟩
  · exact ⟨_, _, fd_standing_eq, _, rfl, F_standing_eq.mono (by decide), b_standing_eq, (eqsB_ok x.owe (x := "Standing") (by decide)).1, x.m_Standing___eq__.at_, x.m_Standing___eq__.fn, (eqsB_ok x.owe (x := "Standing") (by decide)).2.1, (eqsB_ok x.owe (x := "Standing") (by decide)).2.2⟩
  · exact ⟨_, _, fd_work_eq, _, rfl, F_work_eq.mono (by decide), b_work_eq, (eqsB_ok x.owe (x := "Work") (by decide)).1, x.m_Work___eq__.at_, x.m_Work___eq__.fn, (eqsB_ok x.owe (x := "Work") (by decide)).2.1, (eqsB_ok x.owe (x := "Work") (by decide)).2.2⟩
theorem ok_law_bad (x : Fx w K mg) : Okf P w K mg base 5 (He.fAd K D_law_bad.at_) ["_law_purse_here", "_law_claim_here", "_law_shown", "_law_things_here"] 4 p_law_bad := by
  obtain ⟨fd, F⟩ := x.c.def_ 49 (d := D_law_bad) rfl
  obtain ⟨fd_law_pick, F_law_pick, k_law_pick, b_law_pick⟩ := ok_law_pick (P := P) (base := base) x
  have v_law_pick : Vals [] [] := .nil
  obtain ⟨fd_law_is_fit, F_law_is_fit, k_law_is_fit, b_law_is_fit⟩ := ok_law_is_fit (P := P) (base := base) x
  have v_law_is_fit : Vals [] [] := .nil
  obtain ⟨fd_book_eq, F_book_eq, k_book_eq, b_book_eq⟩ := ok_book_eq (P := P) (base := base) x
  have v_book_eq : Vals [] [] := .nil
  obtain ⟨fd_standing_eq, F_standing_eq, k_standing_eq, b_standing_eq⟩ := ok_standing_eq (P := P) (base := base) x
  have v_standing_eq : Vals [] [] := .nil
  obtain ⟨fd_work_eq, F_work_eq, k_work_eq, b_work_eq⟩ := ok_work_eq (P := P) (base := base) x
  have v_work_eq : Vals [] [] := .nil
  refine ⟨fd, F.ok (k := 4) sc_law_bad (fun vs H Q E h => h.1) (fun cdv A outer s H vs Q E hr h => ⟨tMs ⟨K, Gm K⟩ (EW E) b_law_bad, PSs.nox ?_, runK_ok (N := N_law_bad) h⟩), F.kp, F.bindsN fun _ _ _ _ _ _ us hl => match us, hl with | [_, _, _, _], _ => rfl⟩
  exact (mss_cons (ms_set (i := 4) sc_law_bad.nd rfl (.inl rfl) (me_lst (ma_cons (me_lst (ma_cons (me_callTy (call_listOf rfl) ol_list x.f_list bt_list (ma_cons (me_v (pv 1)) ma_nil)) (ma_cons (me_v (pv 2)) ma_nil))) (ma_cons (me_lst (ma_cons (me_slice (me_v (pv 1)) (mo_some me_int) mo_none) (ma_cons (me_v (pv 2)) ma_nil))) (ma_cons (me_lst (ma_cons (me_cat (me_v (pv 1)) (me_tup (ma_cons me_int ma_nil))) (ma_cons (me_v (pv 2)) ma_nil))) (ma_cons (me_lst (ma_cons (me_slice (me_v (pv 1)) mo_none (mo_some (me_un un_neg o_neg me_int))) (ma_cons (me_v (pv 2)) ma_nil))) ma_nil))))))
  (mss_cons (ms_set (i := 4) sc_law_bad.nd rfl (.inl rfl) (me_cat (me_v (pv 4)) (me_lst (ma_cons (me_lst (ma_cons (me_cat (me_tup (ma_cons (me_catS (me_ix (me_v (pv 1)) me_int (by intro _ _; with_unfolding_all rfl)) me_str) ma_nil)) (me_slice (me_v (pv 1)) (mo_some me_int) mo_none)) (ma_cons (me_v (pv 2)) ma_nil))) (ma_cons (me_lst (ma_cons (me_cat (me_tup (ma_cons (me_tup (ma_cons (me_ix (me_v (pv 1)) me_int (by intro _ _; with_unfolding_all rfl)) ma_nil)) ma_nil)) (me_slice (me_v (pv 1)) (mo_some me_int) mo_none)) (ma_cons (me_v (pv 2)) ma_nil))) ma_nil)))))
  (mss_cons (ms_set (i := 4) sc_law_bad.nd rfl (.inl rfl) (me_catN (me_v (pv 4)) (me_lst (ma_cons (me_lst (ma_cons (me_cat (me_tup (ma_cons (me_upper (me_ix (me_v (pv 1)) me_int (by intro _ _; with_unfolding_all rfl))) ma_nil)) (me_slice (me_v (pv 1)) (mo_some me_int) mo_none)) (ma_cons (me_v (pv 2)) ma_nil))) (ma_cons (me_lst (ma_cons (me_tup (ma_cons (me_v (pv 1)) ma_nil)) (ma_cons (me_v (pv 2)) ma_nil))) (ma_cons (me_lst (ma_cons (me_ix (me_v (pv 1)) me_int (by intro _ _; with_unfolding_all rfl)) (ma_cons (me_v (pv 2)) ma_nil))) ma_nil))))))
  (mss_cons (ms_for PassesOwn.never rfl (mi_range1 x.f_range (ma_cons (me_callB call_len_seq ol_len x.f_len bt_len (ma_cons (me_v (pv 1)) ma_nil)) ma_nil)) (pg_name (i := 5) sc_law_bad.nd rfl (.inl rfl)) (mss_cons (ms_set (i := 6) sc_law_bad.nd rfl (.inl rfl) (me_ix (me_v (pv 3)) (me_call (F_law_pick.mono (by decide)) hr rfl x.g__law_pick k_law_pick b_law_pick v_law_pick (fun _ _ => .nil) pz (ma_cons (me_v (pv 0)) (ma_cons (me_callB call_len_seq ol_len x.f_len bt_len (ma_cons (me_v (pv 3)) ma_nil)) ma_nil))) (by intro _ _; with_unfolding_all rfl)))
  (mss_one (ms_if (mt_w (mw_or (mt_w (mw_and (mt_cmp (op_eq2 (roomU64 hr)) o_eq2 (me_v (pv 5)) me_int (nomark _)) (mw_and1 (mt_cmp (op_ne3 (hr.mono (by decide)) (eqs_ok (P := P) (base := base) x rfl rfl rfl rfl rfl)) o_ne3 (me_v (pv 6)) (me_ix (me_v (pv 1)) me_int (by intro _ _; with_unfolding_all rfl)) (nomark _))))) (mw_or1 (mt_w (mw_and (mt_cmp op_gt o_gt (me_v (pv 5)) me_int (nomark _)) (mw_and1 (mt_not (mt_val (me_call (F_law_is_fit.mono (by decide)) hr rfl x.g__law_is_fit k_law_is_fit b_law_is_fit v_law_is_fit (fun _ _ => .nil) pz (ma_cons (me_v (pv 5)) (ma_cons (me_v (pv 6)) ma_nil))))))))))) (mss_one (ms_exp (me_append (me_v (pv 4)) (me_lst (ma_cons (me_cat (me_cat (me_slice (me_v (pv 1)) mo_none (mo_some (me_v (pv 5)))) (me_tup (ma_cons (me_v (pv 6)) ma_nil))) (me_slice (me_v (pv 1)) (mo_some (me_cat (me_v (pv 5)) me_int)) mo_none)) (ma_cons (me_v (pv 2)) ma_nil)))))) mss_nil))))
  (mss_cons (ms_set (i := 6) sc_law_bad.nd rfl (.inl rfl) (me_ix (me_v (pv 3)) (me_call (F_law_pick.mono (by decide)) hr rfl x.g__law_pick k_law_pick b_law_pick v_law_pick (fun _ _ => .nil) pz (ma_cons (me_v (pv 0)) (ma_cons (me_callB call_len_seq ol_len x.f_len bt_len (ma_cons (me_v (pv 3)) ma_nil)) ma_nil))) (by intro _ _; with_unfolding_all rfl)))
  (mss_cons (ms_if (mt_not (mt_val (me_callB call_isiA (ol_isiA (x.ins rfl)) x.f_isinstance bt_isinstance (ma_cons (me_v (pv 6)) (ma_cons (me_ty x.f_tuple bt_tuple) ma_nil))))) (mss_one (ms_exp (me_append (me_v (pv 4)) (me_lst (ma_cons (me_v (pv 1)) (ma_cons (me_v (pv 6)) ma_nil)))))) mss_nil)
  (mss_one (ms_ret (me_v (pv 4))))))))))
theorem ok_are_book (x : Fx w K mg) : Okf P w K mg base 6 (He.fAd K D_are_book.at_) ["letters", "clauses"] 2 p_are_book := by
  obtain ⟨fd, F⟩ := x.c.def_ 50 (d := D_are_book) rfl
  obtain ⟨fd_is_whole, F_is_whole, k_is_whole, b_is_whole⟩ := ok_is_whole (P := P) (base := base) x
  have v_is_whole : Vals [] [] := .nil
  obtain ⟨fd_first_wrong, ds_first_wrong, F_first_wrong, k_first_wrong, b_first_wrong, v_first_wrong⟩ := ok_first_wrong (P := P) (base := base) x
  obtain ⟨t_MOST_LETTER, i_MOST_LETTER⟩ := x.i_MOST_LETTER
  obtain ⟨t_MOST_CLAUSES, i_MOST_CLAUSES⟩ := x.i_MOST_CLAUSES
  refine ⟨fd, F.ok (k := 5) sc_are_book (fun vs H Q E h => h.1) (fun cdv A outer s H vs Q E hr h => ⟨tMs ⟨K, Gm K⟩ (EW E) b_are_book, PSs.nox ?_, runZ_ok (N := N_are_book) h⟩), F.kp, F.bindsN fun _ _ _ _ _ _ us hl => match us, hl with | [_, _], _ => rfl⟩
  exact (mss_cons (ms_if (mt_w (mw_or (mt_not (mt_val (me_call (F_is_whole.mono (by decide)) hr rfl x.g_is_whole k_is_whole b_is_whole v_is_whole (fun _ _ => .nil) pz (ma_cons (me_v (pv 0)) ma_nil)))) (mw_or1 (mt_not (mt_chain op_le op_le o_le o_le me_int (me_v (pv 0)) (me_glob (av := .int 40) (v := .int _) i_MOST_LETTER ⟨_, rfl⟩ fun _ _ => .int _)))))) (mss_one (ms_ret me_bl)) mss_nil)
  (mss_cons (ms_if (mt_w (mw_or (mt_not (mt_val (me_callB call_isiA (ol_isiA (x.ins rfl)) x.f_isinstance bt_isinstance (ma_cons (me_v (pv 1)) (ma_cons (me_ty x.f_tuple bt_tuple) ma_nil))))) (mw_or1 (mt_cmp op_gt o_gt (me_callB call_len_seq ol_len x.f_len bt_len (ma_cons (me_v (pv 1)) ma_nil)) (me_glob (av := .int 400) (v := .int _) i_MOST_CLAUSES ⟨_, rfl⟩ fun _ _ => .int _) (nomark _))))) (mss_one (ms_ret me_bl)) mss_nil)
  (mss_one (ms_ret (me_cmp op_isN o_isN (me_call (F_first_wrong.mono (by decide)) hr rfl x.g_first_wrong k_first_wrong b_first_wrong v_first_wrong (fun _ _ => .cons (.bl _) .nil) pz (ma_cons (me_v (pv 1)) (ma_cons (me_v (pv 0)) ma_nil))) me_non (nomark _))))))
theorem ok_is_set_so (x : Fx w K mg) : Okf P w K mg base 3 (He.fAd K D_is_set_so.at_) ["thing", "letter"] 2 p_is_set_so := by
  obtain ⟨fd, F⟩ := x.c.def_ 51 (d := D_is_set_so) rfl
  obtain ⟨fd_is_lit, F_is_lit, k_is_lit, b_is_lit⟩ := ok_is_lit (P := P) (base := base) x
  have v_is_lit : Vals [] [] := .nil
  refine ⟨fd, F.ok (k := 2) sc_is_set_so (fun vs H Q E h => h.1) (fun cdv A outer s H vs Q E hr h => ⟨tMs ⟨K, Gm K⟩ (EW E) b_is_set_so, PSs.nox ?_, runZ_ok (N := N_is_set_so) h⟩), F.kp, F.bindsN fun _ _ _ _ _ _ us hl => match us, hl with | [_, _], _ => rfl⟩
  exact (mss_one (ms_ret (me_and (me_call (F_is_lit.mono (by decide)) hr rfl x.g_is_lit k_is_lit b_is_lit v_is_lit (fun _ _ => .nil) pz (ma_cons (me_v (pv 0)) ma_nil)) (me_one (me_cmp (op_eq2 (roomU64 hr)) o_eq2 (me_callB call_abs ol_abs x.f_abs bt_abs (ma_cons (me_v (pv 0)) ma_nil)) (me_v (pv 1)) (nomark _))))))
theorem ok_is_setting (x : Fx w K mg) : Okf P w K mg base 4 (He.fAd K D_is_setting.at_) ["thing"] 1 p_is_setting := by
  obtain ⟨fd, F⟩ := x.c.def_ 52 (d := D_is_setting) rfl
  obtain ⟨fd_is_set_so, F_is_set_so, k_is_set_so, b_is_set_so⟩ := ok_is_set_so (P := P) (base := base) x
  have v_is_set_so : Vals [] [] := .nil
  refine ⟨fd, F.ok (k := 3) sc_is_setting (fun vs H Q E h => h.1) (fun cdv A outer s H vs Q E hr h => ⟨tMs ⟨K, Gm K⟩ (EW E) b_is_setting, PSs.nox ?_, runZ_ok (N := N_is_setting) h⟩), F.kp, F.bindsN fun _ _ _ _ _ _ us hl => match us, hl with | [_], _ => rfl⟩
  exact (mss_one (ms_ret (me_and (me_callB call_isiA (ol_isiA (x.ins rfl)) x.f_isinstance bt_isinstance (ma_cons (me_v (pv 0)) (ma_cons (me_ty x.f_tuple bt_tuple) ma_nil))) (me_one (me_callB (cr_all rfl) ol_all x.f_all bt_all (ma_cons (me_lc (own := [("place", 1), ("lit", 2)]) rfl sc_is_setting.nd (mi_enum x.f_enumerate (me_v (pv 0))) (show BlkOk N_is_setting (defScope s_is_setting) _ _ from ⟨rfl, by decide +kernel, by decide +kernel, by decide +kernel, by decide +kernel⟩) (by decide) (fun _ _ _ _ _ => (pg_tp rfl (pgs_cons (pg_name (i := 1) sc_is_setting.nd rfl (.inl rfl)) (pgs_cons (pg_name (i := 2) sc_is_setting.nd rfl (.inl rfl)) pgs_nil)))) (fun _ _ _ _ _ => mts_nil) (fun _ _ _ _ _ => (me_call (F_is_set_so.mono (by decide)) hr rfl x.g_is_set_so k_is_set_so b_is_set_so v_is_set_so (fun _ _ => .nil) pz (ma_cons (me_v (pv 2)) (ma_cons (me_cat (me_v (pv 1)) me_int) ma_nil))))) ma_nil))))))
theorem ok_fits_by (x : Fx w K mg) : Okf P w K mg base 1 (He.fAd K D_fits_by.at_) ["setting", "clause"] 2 p_fits_by := by
  obtain ⟨fd, F⟩ := x.c.def_ 53 (d := D_fits_by) rfl
  refine ⟨fd, F.ok (k := 0) sc_fits_by (fun vs H Q E h => h.1) (fun cdv A outer s H vs Q E hr h => ⟨tMs ⟨K, Gm K⟩ (EW E) b_fits_by, PSs.nox ?_, runZ_ok (N := N_fits_by) h⟩), F.kp, F.bindsN fun _ _ _ _ _ _ us hl => match us, hl with | [_, _], _ => rfl⟩
  exact (mss_one (ms_ret (me_callB (cr_any rfl) ol_any x.f_any bt_any (ma_cons (me_lc (own := [("lit", 2)]) rfl sc_fits_by.nd (mi_seq (me_v (pv 1))) (show BlkOk N_fits_by (defScope s_fits_by) _ _ from ⟨rfl, by decide +kernel, by decide +kernel, by decide +kernel, by decide +kernel⟩) (by decide) (fun _ _ _ _ _ => (pg_name (i := 2) sc_fits_by.nd rfl (.inl rfl))) (fun _ _ _ _ _ => mts_nil) (fun _ _ _ _ _ => (me_cmp (op_eq2 (roomU64 hr)) o_eq2 (me_ix (me_v (pv 0)) (me_op op_sub o_sub (me_callB call_abs ol_abs x.f_abs bt_abs (ma_cons (me_v (pv 2)) ma_nil)) me_int) (by intro _ _; with_unfolding_all rfl)) (me_v (pv 2)) (nomark _)))) ma_nil))))
theorem ok_sets_all (x : Fx w K mg) : Okf P w K mg base 5 (He.fAd K D_sets_all.at_) ["letters", "setting", "clauses"] 3 p_sets_all := by
  obtain ⟨fd, F⟩ := x.c.def_ 54 (d := D_sets_all) rfl
  obtain ⟨fd_is_setting, F_is_setting, k_is_setting, b_is_setting⟩ := ok_is_setting (P := P) (base := base) x
  have v_is_setting : Vals [] [] := .nil
  obtain ⟨fd_fits_by, F_fits_by, k_fits_by, b_fits_by⟩ := ok_fits_by (P := P) (base := base) x
  have v_fits_by : Vals [] [] := .nil
  refine ⟨fd, F.ok (k := 4) sc_sets_all (fun vs H Q E h => h.1) (fun cdv A outer s H vs Q E hr h => ⟨tMs ⟨K, Gm K⟩ (EW E) b_sets_all, PSs.nox ?_, runZ_ok (N := N_sets_all) h⟩), F.kp, F.bindsN fun _ _ _ _ _ _ us hl => match us, hl with | [_, _, _], _ => rfl⟩
  exact (mss_cons (ms_if (mt_w (mw_or (mt_not (mt_val (me_call (F_is_setting.mono (by decide)) hr rfl x.g_is_setting k_is_setting b_is_setting v_is_setting (fun _ _ => .nil) pz (ma_cons (me_v (pv 1)) ma_nil)))) (mw_or1 (mt_cmp (op_ne2 (roomU64 hr)) o_ne2 (me_callB call_len_seq ol_len x.f_len bt_len (ma_cons (me_v (pv 1)) ma_nil)) (me_v (pv 0)) (nomark _))))) (mss_one (ms_ret me_bl)) mss_nil)
  (mss_one (ms_ret (me_callB (cr_all rfl) ol_all x.f_all bt_all (ma_cons (me_lc (own := [("clause", 3)]) rfl sc_sets_all.nd (mi_seq (me_v (pv 2))) (show BlkOk N_sets_all (defScope s_sets_all) _ _ from ⟨rfl, by decide +kernel, by decide +kernel, by decide +kernel, by decide +kernel⟩) (by decide) (fun _ _ _ _ _ => (pg_name (i := 3) sc_sets_all.nd rfl (.inl rfl))) (fun _ _ _ _ _ => mts_nil) (fun _ _ _ _ _ => (me_call (F_fits_by.mono (by decide)) hr rfl x.g_fits_by k_fits_by b_fits_by v_fits_by (fun _ _ => .nil) pz (ma_cons (me_v (pv 1)) (ma_cons (me_v (pv 3)) ma_nil))))) ma_nil)))))
theorem ok_yes_holds (x : Fx w K mg) : Okf P w K mg base 6 (He.fAd K D_yes_holds.at_) ["paper", "letters", "clauses"] 3 p_yes_holds := by
  obtain ⟨fd, F⟩ := x.c.def_ 55 (d := D_yes_holds) rfl
  obtain ⟨fd_sets_all, F_sets_all, k_sets_all, b_sets_all⟩ := ok_sets_all (P := P) (base := base) x
  have v_sets_all : Vals [] [] := .nil
  refine ⟨fd, F.ok (k := 5) sc_yes_holds (fun vs H Q E h => h.1) (fun cdv A outer s H vs Q E hr h => ⟨tMs ⟨K, Gm K⟩ (EW E) b_yes_holds, PSs.nox ?_, runZ_ok (N := N_yes_holds) h⟩), F.kp, F.bindsN fun _ _ _ _ _ _ us hl => match us, hl with | [_, _, _], _ => rfl⟩
  exact (mss_one (ms_ret (me_call (F_sets_all.mono (by decide)) hr rfl x.g_sets_all k_sets_all b_sets_all v_sets_all (fun _ _ => .nil) pz (ma_cons (me_v (pv 1)) (ma_cons (me_v (pv 0)) (ma_cons (me_v (pv 2)) ma_nil))))))
end
end MM
set_option Elab.async false
set_option linter.all false
set_option maxRecDepth 100000
set_option maxHeartbeats 0
namespace MM
open PySem PySem.Spec PyProof.Rows L2
section
variable {P : Program} {w : World} {K : PySem.W.Frag} {mg : Str → Option Value} {base : Heap}
theorem ok_ground_of (x : Fx w K mg) : Okf P w K mg base 8 (He.fAd K D_ground_of.at_) ["letters", "clauses", "log", "words"] 4 p_ground_of := by
  obtain ⟨fd, F⟩ := x.c.def_ 56 (d := D_ground_of) rfl
  obtain ⟨fd_ground_init, F_ground_init, k_ground_init, b_ground_init⟩ := ok_ground_init (P := P) (base := base) x
  have v_ground_init : Vals [] [] := .nil
  obtain ⟨fd_book_init, F_book_init, k_book_init, b_book_init⟩ := ok_book_init (P := P) (base := base) x
  have v_book_init : Vals [] [] := .nil
  obtain ⟨fd_is_line, F_is_line, k_is_line, b_is_line⟩ := ok_is_line (P := P) (base := base) x
  have v_is_line : Vals [] [] := .nil
  obtain ⟨fd_ground_takes, F_ground_takes, k_ground_takes, b_ground_takes⟩ := ok_ground_takes (P := P) (base := base) x
  have v_ground_takes : Vals [] [] := .nil
  obtain ⟨fd_ground_do, F_ground_do, k_ground_do, b_ground_do⟩ := ok_ground_do (P := P) (base := base) x
  have v_ground_do : Vals [] [] := .nil
  refine ⟨fd, F.ok (k := 7) sc_ground_of (fun vs H Q E h => h.1) (fun cdv A outer s H vs Q E hr h => ⟨tMs ⟨K, Gm K⟩ (EW E) b_ground_of, PSs.nox ?_, runZ_ok (N := N_ground_of) h⟩), F.kp, F.bindsN fun _ _ _ _ _ _ us hl => match us, hl with | [_, _, _, _], _ => rfl⟩
  exact (mss_cons (ms_if (mt_not (mt_val (me_callB call_isiA (ol_isiA (x.ins rfl)) x.f_isinstance bt_isinstance (ma_cons (me_v (pv 2)) (ma_cons (me_ty x.f_tuple bt_tuple) ma_nil))))) (mss_one (ms_ret me_non)) mss_nil)
  (mss_cons (ms_set (i := 4) sc_ground_of.nd rfl (.inl rfl) (me_make x.mk_Ground (F_ground_init.mono (by decide)) hr rfl x.g_Ground rfl b_ground_init v_ground_init (fun _ _ => .nil) pz (ma_cons (me_makeZ x.mk_Book (F_book_init.mono (by decide)) hr rfl x.g_Book rfl b_book_init v_book_init (fun _ _ => .nil) pz (ma_cons (me_v (pv 0)) (ma_cons (me_v (pv 1)) ma_nil))) ma_nil)))
  (mss_cons (ms_for PassesOwn.never rfl (mi_seq (me_v (pv 2))) (pg_name (i := 5) sc_ground_of.nd rfl (.inl rfl)) (mss_cons (ms_if (mt_w (mw_or (mt_not (mt_val (me_call (F_is_line.mono (by decide)) hr rfl x.g_is_line k_is_line b_is_line v_is_line (fun _ _ => .nil) pz (ma_cons (me_v (pv 5)) ma_nil)))) (mw_or (mt_cmp (op_notInA (roomU hr)) o_notIn (me_ix (me_v (pv 5)) me_int (by intro _ _; with_unfolding_all rfl)) (me_v (pv 3)) (by with_unfolding_all rfl)) (mw_or1 (mt_not (mt_val (me_meth (me_v (pv 4)) rfl x.c_Ground x.m_Ground_takes (F_ground_takes.mono (by decide)) hr b_ground_takes v_ground_takes (fun _ _ => .nil) pz rfl (ma_cons (me_v (pv 5)) ma_nil)))))))) (mss_one (ms_ret me_non)) mss_nil)
  (mss_one (ms_exp (me_meth (me_v (pv 4)) rfl x.c_Ground x.m_Ground_do (F_ground_do.mono (by decide)) hr b_ground_do v_ground_do (fun _ _ => .nil) pz rfl (ma_cons (me_v (pv 5)) ma_nil))))))
  (mss_one (ms_ret (me_v (pv 4)))))))
theorem ok_is_there (x : Fx w K mg) : Okf P w K mg base 1 (He.fAd K D_is_there.at_) ["ground", "clause"] 2 p_is_there := by
  obtain ⟨fd, F⟩ := x.c.def_ 57 (d := D_is_there) rfl
  refine ⟨fd, F.ok (k := 0) sc_is_there (fun vs H Q E h => h.1) (fun cdv A outer s H vs Q E hr h => ⟨tMs ⟨K, Gm K⟩ (EW E) b_is_there, PSs.nox ?_, runZ_ok (N := N_is_there) h⟩), F.kp, F.bindsN fun _ _ _ _ _ _ us hl => match us, hl with | [_, _], _ => rfl⟩
  exact (mss_one (ms_ret (me_or (me_cmp (op_inA (roomU hr)) o_in (me_v (pv 1)) (me_fld (me_v (pv 0)) rfl x.c_Ground x.n_Ground_held rfl) (by with_unfolding_all rfl)) (me_one (me_cmp (op_inA (roomU hr)) o_in (me_v (pv 1)) (me_fld (me_v (pv 0)) rfl x.c_Ground x.n_Ground_found rfl) (by with_unfolding_all rfl))))))
theorem ok_no_holds (x : Fx w K mg) : Okf P w K mg base 9 (He.fAd K D_no_holds.at_) ["paper", "letters", "clauses"] 3 p_no_holds := by
  obtain ⟨fd, F⟩ := x.c.def_ 58 (d := D_no_holds) rfl
  obtain ⟨fd_ground_of, F_ground_of, k_ground_of, b_ground_of⟩ := ok_ground_of (P := P) (base := base) x
  have v_ground_of : Vals [] [] := .nil
  obtain ⟨fd_is_there, F_is_there, k_is_there, b_is_there⟩ := ok_is_there (P := P) (base := base) x
  have v_is_there : Vals [] [] := .nil
  refine ⟨fd, F.ok (k := 8) sc_no_holds (fun vs H Q E h => h.1) (fun cdv A outer s H vs Q E hr h => ⟨tMs ⟨K, Gm K⟩ (EW E) b_no_holds, PSs.nox ?_, runZ_ok (N := N_no_holds) h⟩), F.kp, F.bindsN fun _ _ _ _ _ _ us hl => match us, hl with | [_, _, _], _ => rfl⟩
  exact (mss_cons (ms_set (i := 3) sc_no_holds.nd rfl (.inl rfl) (me_call (F_ground_of.mono (by decide)) hr rfl x.g_ground_of k_ground_of b_ground_of v_ground_of (fun _ _ => .nil) pz (ma_cons (me_v (pv 1)) (ma_cons (me_v (pv 2)) (ma_cons (me_v (pv 0)) (ma_cons (me_glob (av := kt_WORDS) (v := .ref _) x.g_WORDS rfl fun _ _ => x.k_WORDS) ma_nil))))))
  (mss_one (ms_ret (me_and (me_cmp op_notN o_notN (me_v (pv 3)) me_non (nomark _)) (me_one (me_call (F_is_there.mono (by decide)) hr rfl x.g_is_there k_is_there b_is_there v_is_there (fun _ _ => .nil) pz (ma_cons (me_v (pv 3)) (ma_cons (me_tup ma_nil) ma_nil))))))))
theorem ok_are_clauses (x : Fx w K mg) : Okf P w K mg base 4 (He.fAd K D_are_clauses.at_) ["thing"] 1 p_are_clauses := by
  obtain ⟨fd, F⟩ := x.c.def_ 59 (d := D_are_clauses) rfl
  obtain ⟨fd_is_clause, F_is_clause, k_is_clause, b_is_clause⟩ := ok_is_clause (P := P) (base := base) x
  have v_is_clause : Vals [] [] := .nil
  refine ⟨fd, F.ok (k := 3) sc_are_clauses (fun vs H Q E h => h.1) (fun cdv A outer s H vs Q E hr h => ⟨tMs ⟨K, Gm K⟩ (EW E) b_are_clauses, PSs.nox ?_, runZ_ok (N := N_are_clauses) h⟩), F.kp, F.bindsN fun _ _ _ _ _ _ us hl => match us, hl with | [_], _ => rfl⟩
  exact (mss_one (ms_ret (me_and (me_callB call_isiA (ol_isiA (x.ins rfl)) x.f_isinstance bt_isinstance (ma_cons (me_v (pv 0)) (ma_cons (me_ty x.f_tuple bt_tuple) ma_nil))) (me_one (me_callB (cr_all rfl) ol_all x.f_all bt_all (ma_cons (me_lc (own := [("clause", 1)]) rfl sc_are_clauses.nd (mi_seq (me_v (pv 0))) (show BlkOk N_are_clauses (defScope s_are_clauses) _ _ from ⟨rfl, by decide +kernel, by decide +kernel, by decide +kernel, by decide +kernel⟩) (by decide) (fun _ _ _ _ _ => (pg_name (i := 1) sc_are_clauses.nd rfl (.inl rfl))) (fun _ _ _ _ _ => mts_nil) (fun _ _ _ _ _ => (me_call (F_is_clause.mono (by decide)) hr rfl x.g_is_clause k_is_clause b_is_clause v_is_clause (fun _ _ => .nil) pz (ma_cons (me_v (pv 1)) ma_nil)))) ma_nil))))))
theorem ok_is_entry (x : Fx w K mg) : Okf P w K mg base 4 (He.fAd K D_is_entry.at_) ["thing"] 1 p_is_entry := by
  obtain ⟨fd, F⟩ := x.c.def_ 60 (d := D_is_entry) rfl
  obtain ⟨fd_is_lit, F_is_lit, k_is_lit, b_is_lit⟩ := ok_is_lit (P := P) (base := base) x
  have v_is_lit : Vals [] [] := .nil
  obtain ⟨fd_is_clause, F_is_clause, k_is_clause, b_is_clause⟩ := ok_is_clause (P := P) (base := base) x
  have v_is_clause : Vals [] [] := .nil
  refine ⟨fd, F.ok (k := 3) sc_is_entry (fun vs H Q E h => h.1) (fun cdv A outer s H vs Q E hr h => ⟨tMs ⟨K, Gm K⟩ (EW E) b_is_entry, PSs.nox ?_, runZ_ok (N := N_is_entry) h⟩), F.kp, F.bindsN fun _ _ _ _ _ _ us hl => match us, hl with | [_], _ => rfl⟩
  exact (mss_one (ms_ret (me_and (me_callB call_isiA (ol_isiA (x.ins rfl)) x.f_isinstance bt_isinstance (ma_cons (me_v (pv 0)) (ma_cons (me_ty x.f_tuple bt_tuple) ma_nil))) (me_and (me_cmp (op_eq2 (roomU64 hr)) o_eq2 (me_callB call_len_seq ol_len x.f_len bt_len (ma_cons (me_v (pv 0)) ma_nil)) me_int (nomark _)) (me_and (me_call (F_is_lit.mono (by decide)) hr rfl x.g_is_lit k_is_lit b_is_lit v_is_lit (fun _ _ => .nil) pz (ma_cons (me_ix (me_v (pv 0)) me_int (by intro _ _; with_unfolding_all rfl)) ma_nil)) (me_one (me_call (F_is_clause.mono (by decide)) hr rfl x.g_is_clause k_is_clause b_is_clause v_is_clause (fun _ _ => .nil) pz (ma_cons (me_ix (me_v (pv 0)) me_int (by intro _ _; with_unfolding_all rfl)) ma_nil))))))))
theorem ok_small_holds (x : Fx w K mg) : Okf P w K mg base 9 (He.fAd K D_small_holds.at_) ["paper", "letters", "clauses", "held", "tail"] 5 p_small_holds := by
  obtain ⟨fd, F⟩ := x.c.def_ 61 (d := D_small_holds) rfl
  obtain ⟨fd_are_clauses, F_are_clauses, k_are_clauses, b_are_clauses⟩ := ok_are_clauses (P := P) (base := base) x
  have v_are_clauses : Vals [] [] := .nil
  obtain ⟨fd_is_entry, F_is_entry, k_is_entry, b_is_entry⟩ := ok_is_entry (P := P) (base := base) x
  have v_is_entry : Vals [] [] := .nil
  obtain ⟨fd_ground_of, F_ground_of, k_ground_of, b_ground_of⟩ := ok_ground_of (P := P) (base := base) x
  have v_ground_of : Vals [] [] := .nil
  refine ⟨fd, F.ok (k := 8) sc_small_holds (fun vs H Q E h => h.1) (fun cdv A outer s H vs Q E hr h => ⟨tMs ⟨K, Gm K⟩ (EW E) b_small_holds, PSs.nox ?_, runZ_ok (N := N_small_holds) h⟩), F.kp, F.bindsN fun _ _ _ _ _ _ us hl => match us, hl with | [_, _, _, _, _], _ => rfl⟩
  exact (mss_cons (ms_if (mt_w (mw_or (mt_not (mt_val (me_call (F_are_clauses.mono (by decide)) hr rfl x.g_are_clauses k_are_clauses b_are_clauses v_are_clauses (fun _ _ => .nil) pz (ma_cons (me_v (pv 3)) ma_nil)))) (mw_or (mt_not (mt_val (me_callB call_isiA (ol_isiA (x.ins rfl)) x.f_isinstance bt_isinstance (ma_cons (me_v (pv 4)) (ma_cons (me_ty x.f_tuple bt_tuple) ma_nil))))) (mw_or1 (mt_not (mt_val (me_callB (cr_all rfl) ol_all x.f_all bt_all (ma_cons (me_lc (own := [("entry", 6)]) rfl sc_small_holds.nd (mi_seq (me_v (pv 4))) (show BlkOk N_small_holds (defScope s_small_holds) _ _ from ⟨rfl, by decide +kernel, by decide +kernel, by decide +kernel, by decide +kernel⟩) (by decide) (fun _ _ _ _ _ => (pg_name (i := 6) sc_small_holds.nd rfl (.inl rfl))) (fun _ _ _ _ _ => mts_nil) (fun _ _ _ _ _ => (me_call (F_is_entry.mono (by decide)) hr rfl x.g_is_entry k_is_entry b_is_entry v_is_entry (fun _ _ => .nil) pz (ma_cons (me_v (pv 6)) ma_nil)))) ma_nil)))))))) (mss_one (ms_ret me_bl)) mss_nil)
  (mss_cons (ms_set (i := 5) sc_small_holds.nd rfl (.inl rfl) (me_call (F_ground_of.mono (by decide)) hr rfl x.g_ground_of k_ground_of b_ground_of v_ground_of (fun _ _ => .nil) pz (ma_cons (me_v (pv 1)) (ma_cons (me_v (pv 2)) (ma_cons (me_v (pv 0)) (ma_cons (me_glob (av := kt_WORDS) (v := .ref _) x.g_WORDS rfl fun _ _ => x.k_WORDS) ma_nil))))))
  (mss_one (ms_ret (me_and (me_cmp op_notN o_notN (me_v (pv 5)) me_non (nomark _)) (me_and (me_cmp (op_eq2 (roomU64 hr)) o_eq2 (me_v (pv 3)) (me_callTy call_tuple_of ol_tuple x.f_tuple bt_tuple (ma_cons (me_callB (cr_sortT rfl (roomU hr)) ol_sortT x.f_sorted bt_sorted (ma_cons (me_fld (me_v (pv 5)) rfl x.c_Ground x.n_Ground_held rfl) ma_nil)) ma_nil)) (nomark _)) (me_one (me_cmp (op_eq2 (roomU64 hr)) o_eq2 (me_v (pv 4)) (me_callTy call_tuple_of ol_tuple x.f_tuple bt_tuple (ma_cons (me_fld (me_v (pv 5)) rfl x.c_Ground x.n_Ground_tail rfl) ma_nil)) (nomark _)))))))))
theorem ok_are_lits (x : Fx w K mg) : Okf P w K mg base 3 (He.fAd K D_are_lits.at_) ["thing"] 1 p_are_lits := by
  obtain ⟨fd, F⟩ := x.c.def_ 62 (d := D_are_lits) rfl
  obtain ⟨fd_is_lit, F_is_lit, k_is_lit, b_is_lit⟩ := ok_is_lit (P := P) (base := base) x
  have v_is_lit : Vals [] [] := .nil
  refine ⟨fd, F.ok (k := 2) sc_are_lits (fun vs H Q E h => h.1) (fun cdv A outer s H vs Q E hr h => ⟨tMs ⟨K, Gm K⟩ (EW E) b_are_lits, PSs.nox ?_, runZ_ok (N := N_are_lits) h⟩), F.kp, F.bindsN fun _ _ _ _ _ _ us hl => match us, hl with | [_], _ => rfl⟩
  exact (mss_cons (ms_if (mt_w (mw_or (mt_not (mt_val (me_callB call_isiA (ol_isiA (x.ins rfl)) x.f_isinstance bt_isinstance (ma_cons (me_v (pv 0)) (ma_cons (me_ty x.f_tuple bt_tuple) ma_nil))))) (mw_or1 (mt_not (mt_val (me_callB (cr_all rfl) ol_all x.f_all bt_all (ma_cons (me_lc (own := [("lit", 1)]) rfl sc_are_lits.nd (mi_seq (me_v (pv 0))) (show BlkOk N_are_lits (defScope s_are_lits) _ _ from ⟨rfl, by decide +kernel, by decide +kernel, by decide +kernel, by decide +kernel⟩) (by decide) (fun _ _ _ _ _ => (pg_name (i := 1) sc_are_lits.nd rfl (.inl rfl))) (fun _ _ _ _ _ => mts_nil) (fun _ _ _ _ _ => (me_call (F_is_lit.mono (by decide)) hr rfl x.g_is_lit k_is_lit b_is_lit v_is_lit (fun _ _ => .nil) pz (ma_cons (me_v (pv 1)) ma_nil)))) ma_nil))))))) (mss_one (ms_ret me_bl)) mss_nil)
  (mss_one (ms_ret (me_cmp (op_eq2 (roomU64 hr)) o_eq2 (me_lenSc (own := [("lit", 1)]) x.f_len rfl sc_are_lits.nd (mi_seq (me_v (pv 0))) (show BlkOk N_are_lits (defScope s_are_lits) _ _ from ⟨rfl, by decide +kernel, by decide +kernel, by decide +kernel, by decide +kernel⟩) (by decide) (fun _ _ _ _ _ => (pg_name (i := 1) sc_are_lits.nd rfl (.inl rfl))) (fun _ _ _ _ _ => mts_nil) (fun _ _ _ _ _ => (me_callB call_abs ol_abs x.f_abs bt_abs (ma_cons (me_v (pv 1)) ma_nil)))) (me_callB call_len_seq ol_len x.f_len bt_len (ma_cons (me_v (pv 0)) ma_nil)) (nomark _)))))
theorem ok_never_holds (x : Fx w K mg) : Okf P w K mg base 9 (He.fAd K D_never_holds.at_) ["paper", "letters", "clauses", "lits"] 4 p_never_holds := by
  obtain ⟨fd, F⟩ := x.c.def_ 63 (d := D_never_holds) rfl
  obtain ⟨fd_are_lits, F_are_lits, k_are_lits, b_are_lits⟩ := ok_are_lits (P := P) (base := base) x
  have v_are_lits : Vals [] [] := .nil
  obtain ⟨fd_ground_of, F_ground_of, k_ground_of, b_ground_of⟩ := ok_ground_of (P := P) (base := base) x
  have v_ground_of : Vals [] [] := .nil
  obtain ⟨fd_ground_all_there, F_ground_all_there, k_ground_all_there, b_ground_all_there⟩ := ok_ground_all_there (P := P) (base := base) x
  have v_ground_all_there : Vals [] [] := .nil
  refine ⟨fd, F.ok (k := 8) sc_never_holds (fun vs H Q E h => h.1) (fun cdv A outer s H vs Q E hr h => ⟨tMs ⟨K, Gm K⟩ (EW E) b_never_holds, PSs.nox ?_, runZ_ok (N := N_never_holds) h⟩), F.kp, F.bindsN fun _ _ _ _ _ _ us hl => match us, hl with | [_, _, _, _], _ => rfl⟩
  exact (mss_cons (ms_if (mt_not (mt_val (me_call (F_are_lits.mono (by decide)) hr rfl x.g_are_lits k_are_lits b_are_lits v_are_lits (fun _ _ => .nil) pz (ma_cons (me_v (pv 3)) ma_nil)))) (mss_one (ms_ret me_bl)) mss_nil)
  (mss_cons (ms_set (i := 4) sc_never_holds.nd rfl (.inl rfl) (me_call (F_ground_of.mono (by decide)) hr rfl x.g_ground_of k_ground_of b_ground_of v_ground_of (fun _ _ => .nil) pz (ma_cons (me_v (pv 1)) (ma_cons (me_v (pv 2)) (ma_cons (me_v (pv 0)) (ma_cons (me_glob (av := kt_ADDED) (v := .ref _) x.g_ADDED rfl fun _ _ => x.k_ADDED) ma_nil))))))
  (mss_cons (ms_if (mt_cmp op_isN o_isN (me_v (pv 4)) me_non (nomark _)) (mss_one (ms_ret me_bl)) mss_nil)
  (mss_one (ms_ret (me_callB (cr_any rfl) ol_any x.f_any bt_any (ma_cons (me_lc (own := [("clause", 5)]) rfl sc_never_holds.nd (mi_seq (me_meth0 (me_v (pv 4)) rfl x.c_Ground x.m_Ground_all_there (F_ground_all_there.mono (by decide)) hr b_ground_all_there v_ground_all_there (fun _ _ => .nil) pz rfl)) (show BlkOk N_never_holds (defScope s_never_holds) _ _ from ⟨rfl, by decide +kernel, by decide +kernel, by decide +kernel, by decide +kernel⟩) (by decide) (fun _ _ _ _ _ => (pg_name (i := 5) sc_never_holds.nd rfl (.inl rfl))) (fun _ _ _ _ _ => mts_nil) (fun _ _ _ _ _ => (me_callB (cr_all rfl) ol_all x.f_all bt_all (ma_cons (me_lc (own := [("lit", 6)]) rfl sc_never_holds.nd (mi_seq (me_v (pv 5))) (show BlkOk N_never_holds { kind := .function, names := [(Str.ofString ".0", .local), (Str.ofString "clause", .local), (Str.ofString "all", .globalImplicit), (Str.ofString "lits", .cell)], isGenerator := false, isCoroutine := false } _ _ from ⟨rfl, by decide +kernel, by decide +kernel, by decide +kernel, by decide +kernel⟩) (by decide) (fun _ _ _ _ _ => (pg_name (i := 6) sc_never_holds.nd rfl (.inl rfl))) (fun _ _ _ _ _ => mts_nil) (fun _ _ _ _ _ => (me_cmp (op_inA (roomU hr)) o_in (me_op op_sub o_sub me_int (me_v (pv 6))) (me_v (pv 3)) (by with_unfolding_all rfl)))) ma_nil)))) ma_nil)))))))
end
end MM
set_option Elab.async false
set_option linter.all false
set_option maxRecDepth 100000
set_option maxHeartbeats 0
namespace MM
open PySem PySem.Spec PyProof.Rows L2
section
variable {P : Program} {w : World} {K : PySem.W.Frag} {mg : Str → Option Value} {base : Heap}
theorem ok_alike_holds (x : Fx w K mg) : Okf P w K mg base 9 (He.fAd K D_alike_holds.at_) ["paper", "letters", "clauses", "others"] 4 p_alike_holds := by
  obtain ⟨fd, F⟩ := x.c.def_ 64 (d := D_alike_holds) rfl
  obtain ⟨fd_are_book, F_are_book, k_are_book, b_are_book⟩ := ok_are_book (P := P) (base := base) x
  have v_are_book : Vals [] [] := .nil
  obtain ⟨fd_ground_of, F_ground_of, k_ground_of, b_ground_of⟩ := ok_ground_of (P := P) (base := base) x
  have v_ground_of : Vals [] [] := .nil
  obtain ⟨fd_is_there, F_is_there, k_is_there, b_is_there⟩ := ok_is_there (P := P) (base := base) x
  have v_is_there : Vals [] [] := .nil
  refine ⟨fd, F.ok (k := 8) sc_alike_holds (fun vs H Q E h => h.1) (fun cdv A outer s H vs Q E hr h => ⟨tMs ⟨K, Gm K⟩ (EW E) b_alike_holds, PSs.nox ?_, runZ_ok (N := N_alike_holds) h⟩), F.kp, F.bindsN fun _ _ _ _ _ _ us hl => match us, hl with | [_, _, _, _], _ => rfl⟩
  exact (mss_cons (ms_if (mt_w (mw_or (mt_not (mt_val (me_call (F_are_book.mono (by decide)) hr rfl x.g_are_book k_are_book b_are_book v_are_book (fun _ _ => .nil) pz (ma_cons (me_v (pv 1)) (ma_cons (me_v (pv 3)) ma_nil))))) (mw_or (mt_not (mt_val (me_callB call_isiA (ol_isiA (x.ins rfl)) x.f_isinstance bt_isinstance (ma_cons (me_v (pv 0)) (ma_cons (me_ty x.f_tuple bt_tuple) ma_nil))))) (mw_or1 (mt_cmp (op_ne2 (roomU64 hr)) o_ne2 (me_callB call_len_seq ol_len x.f_len bt_len (ma_cons (me_v (pv 0)) ma_nil)) me_int (nomark _)))))) (mss_one (ms_ret me_bl)) mss_nil)
  (mss_cons (ms_asgG (me_tup (ma_cons (me_call (F_ground_of.mono (by decide)) hr rfl x.g_ground_of k_ground_of b_ground_of v_ground_of (fun _ _ => .nil) pz (ma_cons (me_v (pv 1)) (ma_cons (me_v (pv 2)) (ma_cons (me_ix (me_v (pv 0)) me_int (by intro _ _; with_unfolding_all rfl)) (ma_cons (me_glob (av := kt_ADDED) (v := .ref _) x.g_ADDED rfl fun _ _ => x.k_ADDED) ma_nil))))) (ma_cons (me_call (F_ground_of.mono (by decide)) hr rfl x.g_ground_of k_ground_of b_ground_of v_ground_of (fun _ _ => .nil) pz (ma_cons (me_v (pv 1)) (ma_cons (me_v (pv 3)) (ma_cons (me_ix (me_v (pv 0)) me_int (by intro _ _; with_unfolding_all rfl)) (ma_cons (me_glob (av := kt_ADDED) (v := .ref _) x.g_ADDED rfl fun _ _ => x.k_ADDED) ma_nil))))) ma_nil))) (mg_set (tt := (.tp [4, 5])) (pg_tp rfl (pgs_cons (pg_name (i := 4) sc_alike_holds.nd rfl (.inr rfl)) (pgs_cons (pg_name (i := 5) sc_alike_holds.nd rfl (.inr rfl)) pgs_nil)))))
  (mss_cons (ms_if (mt_w (mw_or (mt_cmp op_isN o_isN (me_v (pv 4)) me_non (nomark _)) (mw_or1 (mt_cmp op_isN o_isN (me_v (pv 5)) me_non (nomark _))))) (mss_one (ms_ret me_bl)) mss_nil)
  (mss_one (ms_ret (me_callB (cr_all rfl) ol_all x.f_all bt_all (ma_cons (me_cat (me_lc (own := [("clause", 6)]) rfl sc_alike_holds.nd (mi_seq (me_v (pv 3))) (show BlkOk N_alike_holds (defScope s_alike_holds) _ _ from ⟨rfl, by decide +kernel, by decide +kernel, by decide +kernel, by decide +kernel⟩) (by decide) (fun _ _ _ _ _ => (pg_name (i := 6) sc_alike_holds.nd rfl (.inl rfl))) (fun _ _ _ _ _ => mts_nil) (fun _ _ _ _ _ => (me_call (F_is_there.mono (by decide)) hr rfl x.g_is_there k_is_there b_is_there v_is_there (fun _ _ => .nil) pz (ma_cons (me_v (pv 4)) (ma_cons (me_v (pv 6)) ma_nil))))) (me_lc (own := [("clause", 6)]) rfl sc_alike_holds.nd (mi_seq (me_v (pv 2))) (show BlkOk N_alike_holds (defScope s_alike_holds) _ _ from ⟨rfl, by decide +kernel, by decide +kernel, by decide +kernel, by decide +kernel⟩) (by decide) (fun _ _ _ _ _ => (pg_name (i := 6) sc_alike_holds.nd rfl (.inl rfl))) (fun _ _ _ _ _ => mts_nil) (fun _ _ _ _ _ => (me_call (F_is_there.mono (by decide)) hr rfl x.g_is_there k_is_there b_is_there v_is_there (fun _ _ => .nil) pz (ma_cons (me_v (pv 5)) (ma_cons (me_v (pv 6)) ma_nil)))))) ma_nil)))))))
theorem ok_are_numbers (x : Fx w K mg) : Okf P w K mg base 2 (He.fAd K D_are_numbers.at_) ["thing", "many"] 2 p_are_numbers := by
  obtain ⟨fd, F⟩ := x.c.def_ 65 (d := D_are_numbers) rfl
  obtain ⟨fd_is_whole, F_is_whole, k_is_whole, b_is_whole⟩ := ok_is_whole (P := P) (base := base) x
  have v_is_whole : Vals [] [] := .nil
  refine ⟨fd, F.ok (k := 1) sc_are_numbers (fun vs H Q E h => h.1) (fun cdv A outer s H vs Q E hr h => ⟨tMs ⟨K, Gm K⟩ (EW E) b_are_numbers, PSs.nox ?_, runZ_ok (N := N_are_numbers) h⟩), F.kp, F.bindsN fun _ _ _ _ _ _ us hl => match us, hl with | [_, _], _ => rfl⟩
  exact (mss_cons (ms_if (mt_w (mw_or (mt_not (mt_val (me_callB call_isiA (ol_isiA (x.ins rfl)) x.f_isinstance bt_isinstance (ma_cons (me_v (pv 0)) (ma_cons (me_ty x.f_tuple bt_tuple) ma_nil))))) (mw_or1 (mt_not (mt_val (me_callB (cr_all rfl) ol_all x.f_all bt_all (ma_cons (me_lc (own := [("number", 2)]) rfl sc_are_numbers.nd (mi_seq (me_v (pv 0))) (show BlkOk N_are_numbers (defScope s_are_numbers) _ _ from ⟨rfl, by decide +kernel, by decide +kernel, by decide +kernel, by decide +kernel⟩) (by decide) (fun _ _ _ _ _ => (pg_name (i := 2) sc_are_numbers.nd rfl (.inl rfl))) (fun _ _ _ _ _ => mts_nil) (fun _ _ _ _ _ => (me_and (me_call (F_is_whole.mono (by decide)) hr rfl x.g_is_whole k_is_whole b_is_whole v_is_whole (fun _ _ => .nil) pz (ma_cons (me_v (pv 2)) ma_nil)) (me_one (me_chain op_le op_lt o_le o_lt me_int (me_v (pv 2)) (me_v (pv 1))))))) ma_nil))))))) (mss_one (ms_ret me_bl)) mss_nil)
  (mss_one (ms_ret (me_callB (cr_all rfl) ol_all x.f_all bt_all (ma_cons (me_lc (own := [("one", 3), ("other", 4)]) rfl sc_are_numbers.nd (mi_zip x.f_zip (me_v (pv 0)) (me_slice (me_v (pv 0)) (mo_some me_int) mo_none)) (show BlkOk N_are_numbers (defScope s_are_numbers) _ _ from ⟨rfl, by decide +kernel, by decide +kernel, by decide +kernel, by decide +kernel⟩) (by decide) (fun _ _ _ _ _ => (pg_tp rfl (pgs_cons (pg_name (i := 3) sc_are_numbers.nd rfl (.inl rfl)) (pgs_cons (pg_name (i := 4) sc_are_numbers.nd rfl (.inl rfl)) pgs_nil)))) (fun _ _ _ _ _ => mts_nil) (fun _ _ _ _ _ => (me_cmp op_lt o_lt (me_v (pv 3)) (me_v (pv 4)) (nomark _)))) ma_nil)))))
theorem ok_core_holds (x : Fx w K mg) : Okf P w K mg base 9 (He.fAd K D_core_holds.at_) ["paper", "letters", "clauses", "numbers"] 4 p_core_holds := by
  obtain ⟨fd, F⟩ := x.c.def_ 66 (d := D_core_holds) rfl
  obtain ⟨fd_are_numbers, F_are_numbers, k_are_numbers, b_are_numbers⟩ := ok_are_numbers (P := P) (base := base) x
  have v_are_numbers : Vals [] [] := .nil
  obtain ⟨fd_ground_of, F_ground_of, k_ground_of, b_ground_of⟩ := ok_ground_of (P := P) (base := base) x
  have v_ground_of : Vals [] [] := .nil
  obtain ⟨fd_is_there, F_is_there, k_is_there, b_is_there⟩ := ok_is_there (P := P) (base := base) x
  have v_is_there : Vals [] [] := .nil
  obtain ⟨fd_sets_all, F_sets_all, k_sets_all, b_sets_all⟩ := ok_sets_all (P := P) (base := base) x
  have v_sets_all : Vals [] [] := .nil
  refine ⟨fd, F.ok (k := 8) sc_core_holds (fun vs H Q E h => h.1) (fun cdv A outer s H vs Q E hr h => ⟨tMs ⟨K, Gm K⟩ (EW E) b_core_holds, PSs.nox ?_, runZ_ok (N := N_core_holds) h⟩), F.kp, F.bindsN fun _ _ _ _ _ _ us hl => match us, hl with | [_, _, _, _], _ => rfl⟩
  exact (mss_cons (ms_if (mt_w (mw_or (mt_not (mt_val (me_call (F_are_numbers.mono (by decide)) hr rfl x.g_are_numbers k_are_numbers b_are_numbers v_are_numbers (fun _ _ => .nil) pz (ma_cons (me_v (pv 3)) (ma_cons (me_callB call_len_seq ol_len x.f_len bt_len (ma_cons (me_v (pv 2)) ma_nil)) ma_nil))))) (mw_or (mt_not (mt_val (me_callB call_isiA (ol_isiA (x.ins rfl)) x.f_isinstance bt_isinstance (ma_cons (me_v (pv 0)) (ma_cons (me_ty x.f_tuple bt_tuple) ma_nil))))) (mw_or1 (mt_cmp (op_ne2 (roomU64 hr)) o_ne2 (me_callB call_len_seq ol_len x.f_len bt_len (ma_cons (me_v (pv 0)) ma_nil)) me_int (nomark _)))))) (mss_one (ms_ret me_bl)) mss_nil)
  (mss_cons (ms_asgG (me_v (pv 0)) (mg_set (tt := (.tp [4, 5])) (pg_tp rfl (pgs_cons (pg_name (i := 4) sc_core_holds.nd rfl (.inl rfl)) (pgs_cons (pg_name (i := 5) sc_core_holds.nd rfl (.inl rfl)) pgs_nil)))))
  (mss_cons (ms_set (i := 6) sc_core_holds.nd rfl (.inr rfl) (me_callTy call_tuple_of ol_tuple x.f_tuple bt_tuple (ma_cons (me_lc (own := [("number", 8)]) rfl sc_core_holds.nd (mi_seq (me_v (pv 3))) (show BlkOk N_core_holds (defScope s_core_holds) _ _ from ⟨rfl, by decide +kernel, by decide +kernel, by decide +kernel, by decide +kernel⟩) (by decide) (fun _ _ _ _ _ => (pg_name (i := 8) sc_core_holds.nd rfl (.inl rfl))) (fun _ _ _ _ _ => mts_nil) (fun _ _ _ _ _ => (me_ix (me_v (pv 2)) (me_v (pv 8)) (by intro _ _; with_unfolding_all rfl)))) ma_nil)))
  (mss_cons (ms_set (i := 7) sc_core_holds.nd rfl (.inl rfl) (me_call (F_ground_of.mono (by decide)) hr rfl x.g_ground_of k_ground_of b_ground_of v_ground_of (fun _ _ => .nil) pz (ma_cons (me_v (pv 1)) (ma_cons (me_v (pv 6)) (ma_cons (me_v (pv 4)) (ma_cons (me_glob (av := kt_ADDED) (v := .ref _) x.g_ADDED rfl fun _ _ => x.k_ADDED) ma_nil))))))
  (mss_cons (ms_if (mt_w (mw_or (mt_cmp op_isN o_isN (me_v (pv 7)) me_non (nomark _)) (mw_or (mt_not (mt_val (me_call (F_is_there.mono (by decide)) hr rfl x.g_is_there k_is_there b_is_there v_is_there (fun _ _ => .nil) pz (ma_cons (me_v (pv 7)) (ma_cons (me_tup ma_nil) ma_nil))))) (mw_or (mt_not (mt_val (me_callB call_isiA (ol_isiA (x.ins rfl)) x.f_isinstance bt_isinstance (ma_cons (me_v (pv 5)) (ma_cons (me_ty x.f_tuple bt_tuple) ma_nil))))) (mw_or1 (mt_cmp (op_ne2 (roomU64 hr)) o_ne2 (me_callB call_len_seq ol_len x.f_len bt_len (ma_cons (me_v (pv 5)) ma_nil)) (me_callB call_len_seq ol_len x.f_len bt_len (ma_cons (me_v (pv 6)) ma_nil)) (nomark _))))))) (mss_one (ms_ret me_bl)) mss_nil)
  (mss_one (ms_ret (me_callB (cr_all rfl) ol_all x.f_all bt_all (ma_cons (me_lc (own := [("at", 9), ("setting", 10)]) rfl sc_core_holds.nd (mi_enum x.f_enumerate (me_v (pv 5))) (show BlkOk N_core_holds (defScope s_core_holds) _ _ from ⟨rfl, by decide +kernel, by decide +kernel, by decide +kernel, by decide +kernel⟩) (by decide) (fun _ _ _ _ _ => (pg_tp rfl (pgs_cons (pg_name (i := 9) sc_core_holds.nd rfl (.inl rfl)) (pgs_cons (pg_name (i := 10) sc_core_holds.nd rfl (.inl rfl)) pgs_nil)))) (fun _ _ _ _ _ => mts_nil) (fun _ _ _ _ _ => (me_call (F_sets_all.mono (by decide)) hr rfl x.g_sets_all k_sets_all b_sets_all v_sets_all (fun _ _ => .nil) pz (ma_cons (me_v (pv 1)) (ma_cons (me_v (pv 10)) (ma_cons (me_cat (me_slice (me_v (pv 6)) mo_none (mo_some (me_v (pv 9)))) (me_slice (me_v (pv 6)) (mo_some (me_cat (me_v (pv 9)) me_int)) mo_none)) ma_nil)))))) ma_nil)))))))))
theorem ok_holds (x : Fx w K mg) : Okk P w K mg base 10 (He.fAd K D_holds.at_) ["claim", "paper"] 2 p_holds := by
  obtain ⟨fd, F⟩ := x.c.def_ 67 (d := D_holds) rfl
  obtain ⟨fd_are_book, F_are_book, k_are_book, b_are_book⟩ := ok_are_book (P := P) (base := base) x
  have v_are_book : Vals [] [] := .nil
  obtain ⟨fd_yes_holds, F_yes_holds, k_yes_holds, b_yes_holds⟩ := ok_yes_holds (P := P) (base := base) x
  have v_yes_holds : Vals [] [] := .nil
  obtain ⟨fd_no_holds, F_no_holds, k_no_holds, b_no_holds⟩ := ok_no_holds (P := P) (base := base) x
  have v_no_holds : Vals [] [] := .nil
  obtain ⟨fd_small_holds, F_small_holds, k_small_holds, b_small_holds⟩ := ok_small_holds (P := P) (base := base) x
  have v_small_holds : Vals [] [] := .nil
  obtain ⟨fd_never_holds, F_never_holds, k_never_holds, b_never_holds⟩ := ok_never_holds (P := P) (base := base) x
  have v_never_holds : Vals [] [] := .nil
  obtain ⟨fd_alike_holds, F_alike_holds, k_alike_holds, b_alike_holds⟩ := ok_alike_holds (P := P) (base := base) x
  have v_alike_holds : Vals [] [] := .nil
  obtain ⟨fd_core_holds, F_core_holds, k_core_holds, b_core_holds⟩ := ok_core_holds (P := P) (base := base) x
  have v_core_holds : Vals [] [] := .nil
  refine ⟨fd, F.ok (k := 9) sc_holds (fun vs H Q E h => h.1) (fun cdv A outer s H vs Q E hr h => ⟨tMs ⟨K, Gm K⟩ (EW E) b_holds, PSs.nox ?_, runZ_ok (N := N_holds) h⟩), F.kp, F.bindsN fun _ _ _ _ _ _ us hl => match us, hl with | [_, _], _ => rfl, FunD.kbsw F rfl fun _ _ _ _ _ _ _ _ => rfl⟩
  have hfns : FnsOk (cxOf CX0 P w K mg base N_holds D_holds.qual D_holds.scope (He.fAd K D_holds.at_) cdv A outer s H E).nox (Gm K) 9 fns_holds := ⟨fun q hq => by
    simp only [fns_holds, List.mem_cons, List.not_mem_nil, or_false] at hq
    rcases hq with rfl | rfl | rfl | rfl | rfl | rfl
    · exact ⟨_, fd_yes_holds, _, rfl, F_yes_holds.mono (by decide), k_yes_holds, b_yes_holds⟩
    · exact ⟨_, fd_no_holds, _, rfl, F_no_holds.mono (by decide), k_no_holds, b_no_holds⟩
    · exact ⟨_, fd_small_holds, _, rfl, F_small_holds.mono (by decide), k_small_holds, b_small_holds⟩
    · exact ⟨_, fd_never_holds, _, rfl, F_never_holds.mono (by decide), k_never_holds, b_never_holds⟩
    · exact ⟨_, fd_alike_holds, _, rfl, F_alike_holds.mono (by decide), k_alike_holds, b_alike_holds⟩
    · exact ⟨_, fd_core_holds, _, rfl, F_core_holds.mono (by decide), k_core_holds, b_core_holds⟩⟩
  exact (mss_cons (ms_if (mt_w (mw_or (mt_not (mt_val (me_callB call_isiA (ol_isiA (x.ins rfl)) x.f_isinstance bt_isinstance (ma_cons (me_v (pv 0)) (ma_cons (me_ty x.f_tuple bt_tuple) ma_nil))))) (mw_or (mt_cmp (op_eqE (roomU1 hr)) o_eqE (me_v (pv 0)) (me_tup ma_nil) (nomark _)) (mw_or (mt_not (mt_val (me_callB call_isiA (ol_isiA (x.ins rfl)) x.f_isinstance bt_isinstance (ma_cons (me_ix (me_v (pv 0)) me_int (by intro _ _; with_unfolding_all rfl)) (ma_cons (me_ty x.f_str bt_str) ma_nil))))) (mw_or1 (mt_notTabO (x.tab_JUDGES rfl rfl) (x.outz rfl) (me_ix (me_v (pv 0)) me_int (by intro _ _; with_unfolding_all rfl)) (me_glob (av := .glo "JUDGES") (v := .ref _) x.g_JUDGES rfl fun _ _ => .glo rfl) (by with_unfolding_all rfl))))))) (mss_one (ms_ret me_bl)) mss_nil)
  (mss_cons (ms_asgG (me_ixTab (x.tab_JUDGES rfl rfl) (me_glob (av := .glo "JUDGES") (v := .ref _) x.g_JUDGES rfl fun _ _ => .glo rfl) (me_ix (me_v (pv 0)) me_int (by intro _ _; with_unfolding_all rfl)) (by intro _ _; with_unfolding_all rfl)) (mg_set (tt := (.tp [2, 3])) (pg_tp rfl (pgs_cons (pg_name (i := 2) sc_holds.nd rfl (.inl rfl)) (pgs_cons (pg_name (i := 3) sc_holds.nd rfl (.inl rfl)) pgs_nil)))))
  (mss_cons (ms_if (mt_w (mw_or (mt_cmp (op_ne2 (roomU64 hr)) o_ne2 (me_callB call_len_seq ol_len x.f_len bt_len (ma_cons (me_v (pv 0)) ma_nil)) (me_v (pv 2)) (nomark _)) (mw_or1 (mt_not (mt_val (me_call (F_are_book.mono (by decide)) hr rfl x.g_are_book k_are_book b_are_book v_are_book (fun _ _ => .nil) pz (ma_cons (me_ix (me_v (pv 0)) me_int (by intro _ _; with_unfolding_all rfl)) (ma_cons (me_ix (me_v (pv 0)) me_int (by intro _ _; with_unfolding_all rfl)) ma_nil)))))))) (mss_one (ms_ret me_bl)) mss_nil)
  (mss_cons (ms_if (mt_cmp (op_eq2 (roomU64 hr)) o_eq2 (me_v (pv 2)) me_int (nomark _)) (mss_one (ms_ret (me_callG hfns hr rfl (.inl rfl) (ma_cons (me_v (pv 1)) (ma_cons (me_ix (me_v (pv 0)) me_int (by intro _ _; with_unfolding_all rfl)) (ma_cons (me_ix (me_v (pv 0)) me_int (by intro _ _; with_unfolding_all rfl)) ma_nil)))))) mss_nil)
  (mss_cons (ms_if (mt_cmp (op_eq2 (roomU64 hr)) o_eq2 (me_v (pv 2)) me_int (nomark _)) (mss_one (ms_ret (me_callG hfns hr rfl (.inl rfl) (ma_cons (me_v (pv 1)) (ma_cons (me_ix (me_v (pv 0)) me_int (by intro _ _; with_unfolding_all rfl)) (ma_cons (me_ix (me_v (pv 0)) me_int (by intro _ _; with_unfolding_all rfl)) (ma_cons (me_ix (me_v (pv 0)) me_int (by intro _ _; with_unfolding_all rfl)) ma_nil))))))) mss_nil)
  (mss_one (ms_ret (me_callG hfns hr rfl (.inl rfl) (ma_cons (me_v (pv 1)) (ma_cons (me_ix (me_v (pv 0)) me_int (by intro _ _; with_unfolding_all rfl)) (ma_cons (me_ix (me_v (pv 0)) me_int (by intro _ _; with_unfolding_all rfl)) (ma_cons (me_ix (me_v (pv 0)) me_int (by intro _ _; with_unfolding_all rfl)) (ma_cons (me_ix (me_v (pv 0)) me_int (by intro _ _; with_unfolding_all rfl)) ma_nil)))))))))))))
theorem ok_book_repr (x : Fx w K mg) : Okf P w K mg base 1 (He.fAd K D_book_repr.at_) ["self"] 1 p_book_repr := by
  obtain ⟨fd, F⟩ := x.c.def_ 68 (d := D_book_repr) rfl
  refine ⟨fd, F.ok (k := 0) sc_book_repr (fun vs H Q E h => h.1) (fun cdv A outer s H vs Q E hr h => ⟨tMs ⟨K, Gm K⟩ (EW E) b_book_repr, PSs.nox ?_, runZ_ok (N := N_book_repr) h⟩), F.kp, F.bindsN fun _ _ _ _ _ _ us hl => match us, hl with | [_], _ => rfl⟩
  exact (mss_one (ms_ret (me_joined (.cons me_str (.cons (me_fmt (me_fld (me_v (pv 0)) rfl x.c_Book x.n_Book_letters rfl)) (.cons me_str (.cons (me_fmt (me_callB call_len_seq ol_len x.f_len bt_len (ma_cons (me_fld (me_v (pv 0)) rfl x.c_Book x.n_Book_clauses rfl) ma_nil))) (.cons me_str .nil))))))))
theorem ok_standing_repr (x : Fx w K mg) : Okf P w K mg base 1 (He.fAd K D_standing_repr.at_) ["self"] 1 p_standing_repr := by
  obtain ⟨fd, F⟩ := x.c.def_ 69 (d := D_standing_repr) rfl
  refine ⟨fd, F.ok (k := 0) sc_standing_repr (fun vs H Q E h => h.1) (fun cdv A outer s H vs Q E hr h => ⟨tMs ⟨K, Gm K⟩ (EW E) b_standing_repr, PSs.nox ?_, runZ_ok (N := N_standing_repr) h⟩), F.kp, F.bindsN fun _ _ _ _ _ _ us hl => match us, hl with | [_], _ => rfl⟩
  exact (mss_one (ms_ret (me_joined (.cons me_str (.cons (me_fmt (me_callB call_len_seq ol_len x.f_len bt_len (ma_cons (me_fld (me_v (pv 0)) rfl x.c_Standing x.n_Standing_held rfl) ma_nil))) (.cons me_str (.cons (me_fmt (me_callB call_len_seq ol_len x.f_len bt_len (ma_cons (me_fld (me_v (pv 0)) rfl x.c_Standing x.n_Standing_found rfl) ma_nil))) (.cons me_str (.cons (me_fmt (me_callB call_len_seq ol_len x.f_len bt_len (ma_cons (me_fld (me_v (pv 0)) rfl x.c_Standing x.n_Standing_tail rfl) ma_nil))) (.cons me_str .nil))))))))))
theorem ok_work_str (x : Fx w K mg) : Okf P w K mg base 1 (He.fAd K D_work_str.at_) ["self"] 1 p_work_str := by
  obtain ⟨fd, F⟩ := x.c.def_ 70 (d := D_work_str) rfl
  refine ⟨fd, F.ok (k := 0) sc_work_str (fun vs H Q E h => h.1) (fun cdv A outer s H vs Q E hr h => ⟨tMs ⟨K, Gm K⟩ (EW E) b_work_str, PSs.nox ?_, runZ_ok (N := N_work_str) h⟩), F.kp, F.bindsN fun _ _ _ _ _ _ us hl => match us, hl with | [_], _ => rfl⟩
  exact (mss_one (ms_ret (me_joined (.cons me_str (.cons (me_fmt (me_callB call_len_seq ol_len x.f_len bt_len (ma_cons (me_fld (me_v (pv 0)) rfl x.c_Work x.n_Work_held rfl) ma_nil))) (.cons me_str (.cons (me_fmt (me_callB call_len_seq ol_len x.f_len bt_len (ma_cons (me_fld (me_v (pv 0)) rfl x.c_Work x.n_Work_found rfl) ma_nil))) (.cons me_str (.cons (me_fmt (me_callB call_len_seq ol_len x.f_len bt_len (ma_cons (me_fld (me_v (pv 0)) rfl x.c_Work x.n_Work_tail rfl) ma_nil))) .nil)))))))))
theorem strs_ok (x : Fx w K mg) {X : Cx} (h1 : X.prog = P) (h2 : X.w = w) (h3 : X.K = K) (h4 : X.mg = mg) (h5 : X.base = base) : StrsOk X (Gm X.K) 1 strsL := by
  subst h1 h2 h3 h4 h5
  obtain ⟨fd_work_str, F_work_str, k_work_str, b_work_str⟩ := ok_work_str (P := X.prog) (base := X.base) x
  refine ⟨fun q hq => ?_⟩
  simp only [strsL, List.mem_cons, List.not_mem_nil, or_false] at hq
  rcases hq with rfl
  · exact ⟨_, _, fd_work_str, _, rfl, F_work_str.mono (by decide), b_work_str, x.m_Work___str__.at_, x.m_Work___str__.fn⟩
theorem ok_work_repr (x : Fx w K mg) : Okf P w K mg base 5 (He.fAd K D_work_repr.at_) ["self"] 1 p_work_repr := by
  obtain ⟨fd, F⟩ := x.c.def_ 71 (d := D_work_repr) rfl
  obtain ⟨fd_work_str, F_work_str, k_work_str, b_work_str⟩ := ok_work_str (P := P) (base := base) x
  have v_work_str : Vals [] [] := .nil
  refine ⟨fd, F.ok (k := 4) sc_work_repr (fun vs H Q E h => h.1) (fun cdv A outer s H vs Q E hr h => ⟨tMs ⟨K, Gm K⟩ (EW E) b_work_repr, PSs.nox ?_, runZ_ok (N := N_work_repr) h⟩), F.kp, F.bindsN fun _ _ _ _ _ _ us hl => match us, hl with | [_], _ => rfl⟩
  exact (mss_one (ms_ret (me_joined (.cons me_str (.cons (me_fmt (me_callTy (call_strO (strs_ok (P := P) (base := base) x rfl rfl rfl rfl rfl) (hr.mono (by decide))) ol_strO x.f_str bt_str (ma_cons (me_v (pv 0)) ma_nil))) (.cons me_str .nil))))))
end
end MM
set_option Elab.async false
set_option linter.all false
set_option maxRecDepth 100000
set_option maxHeartbeats 0
namespace MM
open PySem PySem.Spec PyProof.Rows L2
section
variable {P : Program} {w : World} {K : PySem.W.Frag} {mg : Str → Option Value} {base : Heap}
theorem reps_ok (x : Fx w K mg) {X : Cx} (h1 : X.prog = P) (h2 : X.w = w) (h3 : X.K = K) (h4 : X.mg = mg) (h5 : X.base = base) : RepsOk X (Gm X.K) 8 repsL := by
  subst h1 h2 h3 h4 h5
  obtain ⟨fd_book_repr, F_book_repr, k_book_repr, b_book_repr⟩ := ok_book_repr (P := X.prog) (base := X.base) x
  obtain ⟨fd_standing_repr, F_standing_repr, k_standing_repr, b_standing_repr⟩ := ok_standing_repr (P := X.prog) (base := X.base) x
  obtain ⟨fd_work_repr, F_work_repr, k_work_repr, b_work_repr⟩ := ok_work_repr (P := X.prog) (base := X.base) x
  refine ⟨fun q hq => ?_⟩
  simp only [repsL, List.mem_cons, List.not_mem_nil, or_false] at hq
  rcases hq with rfl | rfl | rfl
  · exact ⟨_, _, fd_book_repr, _, rfl, F_book_repr.mono (by decide), b_book_repr, x.m_Book___repr__.at_, x.m_Book___repr__.fn⟩
  · exact ⟨_, _, fd_standing_repr, _, rfl, F_standing_repr.mono (by decide), b_standing_repr, x.m_Standing___repr__.at_, x.m_Standing___repr__.fn⟩
  · exact ⟨_, _, fd_work_repr, _, rfl, F_work_repr.mono (by decide), b_work_repr, x.m_Work___repr__.at_, x.m_Work___repr__.fn⟩
theorem top_law (x : Fx w K mg) : ∃ fd, (∀ base : Heap, TopOk P w K mg base (He.fAd K D_law.at_) fd ["_law_script"] (spM ⟨K, Gm K⟩ 1 p_law)) ∧ ∀ (s : Shared) (u : Value), BindsTo s fd ⟨[u], []⟩ [("_law_script", u)] := by
  obtain ⟨fd, F⟩ := x.c.def_ 72 (d := D_law) rfl
  refine ⟨fd, fun base => ?_, fun s u => F.bindsA (ps := ["_law_script"]) (fun _ _ _ _ _ _ us hl => match us, hl with | [_], _ => rfl) s [u] rfl⟩
  obtain ⟨fd_law_good, F_law_good, k_law_good, b_law_good⟩ := ok_law_good (P := P) (base := base) x
  have v_law_good : Vals [] [] := .nil
  obtain ⟨fd_law_things, F_law_things, k_law_things, b_law_things⟩ := ok_law_things (P := P) (base := base) x
  have v_law_things : Vals [] [] := .nil
  obtain ⟨fd_law_purse, F_law_purse, k_law_purse, b_law_purse⟩ := ok_law_purse (P := P) (base := base) x
  have v_law_purse : Vals [] [] := .nil
  obtain ⟨fd_law_cell, F_law_cell, k_law_cell, b_law_cell⟩ := ok_law_cell (P := P) (base := base) x
  have v_law_cell : Vals [] [] := .nil
  obtain ⟨fd_law_pick, F_law_pick, k_law_pick, b_law_pick⟩ := ok_law_pick (P := P) (base := base) x
  have v_law_pick : Vals [] [] := .nil
  obtain ⟨fd_law_bad, F_law_bad, k_law_bad, b_law_bad⟩ := ok_law_bad (P := P) (base := base) x
  have v_law_bad : Vals [] [] := .nil
  obtain ⟨fd_holds, F_holds, k_holds, b_holds, kb_holds⟩ := ok_holds (P := P) (base := base) x
  have v_holds : Vals [] [] := .nil
  obtain ⟨fd_book_repr, F_book_repr, k_book_repr, b_book_repr⟩ := ok_book_repr (P := P) (base := base) x
  have v_book_repr : Vals [] [] := .nil
  obtain ⟨fd_standing_repr, F_standing_repr, k_standing_repr, b_standing_repr⟩ := ok_standing_repr (P := P) (base := base) x
  have v_standing_repr : Vals [] [] := .nil
  obtain ⟨fd_work_repr, F_work_repr, k_work_repr, b_work_repr⟩ := ok_work_repr (P := P) (base := base) x
  have v_work_repr : Vals [] [] := .nil
  refine topOk (k := 45) ⟨rfl, by decide, by decide⟩ F sc_law (fun vs H Q E h => h.1) (fun cdv s H vs Q E hr h => ⟨tMs ⟨K, Gm K⟩ (EW E) b_law, PSs.nox ?_, runZ_ok (N := N_law) h⟩)
  exact (mss_cons (ms_asgG (me_tup (ma_cons (me_call0 (F_law_good.mono (by decide)) hr rfl x.g__law_good k_law_good b_law_good v_law_good (fun _ _ => .nil) pz) (ma_cons (me_call0 (F_law_things.mono (by decide)) hr rfl x.g__law_things k_law_things b_law_things v_law_things (fun _ _ => .nil) pz) ma_nil))) (mg_set (tt := (.tp [1, 2])) (pg_tp rfl (pgs_cons (pg_name (i := 1) sc_law.nd rfl (.inl rfl)) (pgs_cons (pg_name (i := 2) sc_law.nd rfl (.inr rfl)) pgs_nil)))))
  (mss_cons (ms_for PassesOwn.never rfl (mi_range1 x.f_range (ma_cons (me_callB (call_max2 rfl) ol_max2 x.f_max bt_max (ma_cons me_int (ma_cons (me_callB (call_min2 rfl) ol_min2 x.f_min bt_min (ma_cons (me_callB call_len_seq ol_len x.f_len bt_len (ma_cons (me_v (pv 0)) ma_nil)) (ma_cons me_int ma_nil))) ma_nil))) ma_nil)) (pg_name (i := 3) sc_law.nd rfl (.inl rfl)) (mss_cons (ms_set (i := 4) sc_law.nd rfl (.inr rfl) (me_call (F_law_purse.mono (by decide)) hr rfl x.g__law_purse k_law_purse b_law_purse v_law_purse (fun _ _ => .nil) pz (ma_cons (me_call (F_law_cell.mono (by decide)) hr rfl x.g__law_cell k_law_cell b_law_cell v_law_cell (fun _ _ => .nil) pz (ma_cons (me_v (pv 0)) (ma_cons (me_v (pv 3)) ma_nil))) ma_nil)))
  (mss_cons (ms_setLc (i := 5) (own := [("_law_thing", 10)]) rfl sc_law.nd rfl rfl (mi_seq (me_v (pv 2))) (show BlkOk N_law (defScope s_law) _ _ from ⟨rfl, by decide +kernel, by decide +kernel, by decide +kernel, by decide +kernel⟩) (by decide) (fun _ _ _ _ _ => (pg_name (i := 10) sc_law.nd rfl (.inl rfl))) (fun _ _ _ _ _ => mts_nil) (fun _ _ _ _ _ => (me_lst (ma_cons (me_v (pv 10)) (ma_cons (me_ix (me_v (pv 2)) (me_call (F_law_pick.mono (by decide)) hr rfl x.g__law_pick k_law_pick b_law_pick v_law_pick (fun _ _ => .nil) pz (ma_cons (me_v (pv 4)) (ma_cons (me_callB call_len_seq ol_len x.f_len bt_len (ma_cons (me_v (pv 2)) ma_nil)) ma_nil))) (by intro _ _; with_unfolding_all rfl)) ma_nil)))) (by rfl))
  (mss_cons (ms_for PassesOwn.never rfl (mi_seq (me_v (pv 1))) (pg_tp rfl (pgs_cons (pg_name (i := 6) sc_law.nd rfl (.inl rfl)) (pgs_cons (pg_name (i := 7) sc_law.nd rfl (.inl rfl)) pgs_nil))) (mss_cons (ms_for PassesOwn.never rfl (mi_range1 x.f_range (ma_cons me_int ma_nil)) (pg_name (i := 8) sc_law.nd rfl (.inl rfl)) (mss_one (ms_set (i := 5) sc_law.nd rfl (.inl rfl) (me_catN (me_v (pv 5)) (me_call (F_law_bad.mono (by decide)) hr rfl x.g__law_bad k_law_bad b_law_bad v_law_bad (fun _ _ => .nil) pz (ma_cons (me_v (pv 4)) (ma_cons (me_v (pv 6)) (ma_cons (me_v (pv 7)) (ma_cons (me_v (pv 2)) ma_nil)))))))))
  (mss_one (ms_exp (me_append (me_v (pv 5)) (me_lst (ma_cons (me_v (pv 7)) (ma_cons (me_v (pv 6)) ma_nil))))))))
  (mss_cons (ms_set (i := 9) sc_law.nd rfl (.inl rfl) (me_callB (call_reprA rfl (hr.mono (by decide))) (ol_reprA (reps_ok (P := P) (base := base) x rfl rfl rfl rfl rfl)) x.f_repr bt_repr (ma_cons (me_lst (ma_cons (me_v (pv 1)) (ma_cons (me_v (pv 5)) ma_nil))) ma_nil)))
  (mss_cons (ms_if (mt_not (mt_val (me_callB (cr_all rfl) ol_all x.f_all bt_all (ma_cons (me_lc (own := [("_law_one", 11), ("_law_two", 12)]) rfl sc_law.nd (mi_seq (me_v (pv 1))) (show BlkOk N_law (defScope s_law) _ _ from ⟨rfl, by decide +kernel, by decide +kernel, by decide +kernel, by decide +kernel⟩) (by decide) (fun _ _ _ _ _ => (pg_tp rfl (pgs_cons (pg_name (i := 11) sc_law.nd rfl (.inl rfl)) (pgs_cons (pg_name (i := 12) sc_law.nd rfl (.inl rfl)) pgs_nil)))) (fun _ _ _ _ _ => mts_nil) (fun _ _ _ _ _ => (me_cmp op_isBl o_isB (me_call (F_holds.mono (by decide)) hr rfl x.g_holds k_holds b_holds v_holds (fun _ _ => .nil) pz (ma_cons (me_v (pv 11)) (ma_cons (me_v (pv 12)) ma_nil))) me_bl (nomark _)))) ma_nil)))) (mss_one (ms_ret me_bl)) mss_nil)
  (mss_cons (ms_if (mt_not (mt_val (me_callB (cr_all rfl) ol_all x.f_all bt_all (ma_cons (me_lc (own := [("_law_one", 11), ("_law_two", 12)]) rfl sc_law.nd (mi_seq (me_v (pv 5))) (show BlkOk N_law (defScope s_law) _ _ from ⟨rfl, by decide +kernel, by decide +kernel, by decide +kernel, by decide +kernel⟩) (by decide) (fun _ _ _ _ _ => (pg_tp rfl (pgs_cons (pg_name (i := 11) sc_law.nd rfl (.inl rfl)) (pgs_cons (pg_name (i := 12) sc_law.nd rfl (.inl rfl)) pgs_nil)))) (fun _ _ _ _ _ => mts_nil) (fun _ _ _ _ _ => (me_cmp op_isBl o_isB (me_call (F_holds.mono (by decide)) hr rfl x.g_holds k_holds b_holds v_holds (fun _ _ => .nil) pz (ma_cons (me_v (pv 11)) (ma_cons (me_v (pv 12)) ma_nil))) me_bl (nomark _)))) ma_nil)))) (mss_one (ms_ret me_bl)) mss_nil)
  (mss_one (ms_if (mt_w (mw_or (mt_not (mt_val (me_callB (cr_all rfl) ol_all x.f_all bt_all (ma_cons (me_lc (own := [("_law_one", 11), ("_law_two", 12)]) rfl sc_law.nd (mi_seq (me_v (pv 1))) (show BlkOk N_law (defScope s_law) _ _ from ⟨rfl, by decide +kernel, by decide +kernel, by decide +kernel, by decide +kernel⟩) (by decide) (fun _ _ _ _ _ => (pg_tp rfl (pgs_cons (pg_name (i := 11) sc_law.nd rfl (.inl rfl)) (pgs_cons (pg_name (i := 12) sc_law.nd rfl (.inl rfl)) pgs_nil)))) (fun _ _ _ _ _ => mts_nil) (fun _ _ _ _ _ => (me_cmp op_isBl o_isB (me_callSw (F_holds.mono (by decide)) hr rfl x.g_holds k_holds kb_holds rfl pz (mk_cons (me_v (pv 12)) (mk_cons (me_v (pv 11)) mk_nil))) me_bl (nomark _)))) ma_nil)))) (mw_or1 (mt_cmp (op_ne2 (roomU64 hr)) o_ne2 (me_callB (call_reprA rfl (hr.mono (by decide))) (ol_reprA (reps_ok (P := P) (base := base) x rfl rfl rfl rfl rfl)) x.f_repr bt_repr (ma_cons (me_lst (ma_cons (me_v (pv 1)) (ma_cons (me_v (pv 5)) ma_nil))) ma_nil)) (me_v (pv 9)) (nomark _))))) (mss_one (ms_ret me_bl)) mss_nil)))))))))
  (mss_one (ms_ret me_bl))))
end
end MM
set_option Elab.async false
set_option linter.all false
set_option maxRecDepth 100000
set_option maxHeartbeats 0
/-! The head of k72: what stands behind the top, without the lists. -/
namespace MM
open PySem PySem.Spec PyProof.Rows L2
def exB (K : PySem.W.Frag) : Bool := tupAB K (He.ga K "OF_CLAUSE") [V.str (Str.ofString "add"), V.str (Str.ofString "keep"), V.str (Str.ofString "forget"), V.str (Str.ofString "drop"), V.str (Str.ofString "put")] && (tupAB K (He.ga K "ADDED") [V.str (Str.ofString "add")] && (tupAB K (He.ga K "WORDS") [V.str (Str.ofString "add"), V.str (Str.ofString "keep"), V.str (Str.ofString "forget"), V.str (Str.ofString "drop"), V.str (Str.ofString "leave"), V.str (Str.ofString "back")] && (He.eqO (PySem.W.nsIn K (He.ga K "JUDGES") (Str.ofString "yes")) (some (some (.ref (tabAd K "JUDGES" (Str.ofString "yes"))))) && (tupAB K (tabAd K "JUDGES" (Str.ofString "yes")) [V.int 3, V.ref (He.ga K "yes_holds")] && (He.eqO (PySem.W.nsIn K (He.ga K "JUDGES") (Str.ofString "no")) (some (some (.ref (tabAd K "JUDGES" (Str.ofString "no"))))) && (tupAB K (tabAd K "JUDGES" (Str.ofString "no")) [V.int 3, V.ref (He.ga K "no_holds")] && (He.eqO (PySem.W.nsIn K (He.ga K "JUDGES") (Str.ofString "small")) (some (some (.ref (tabAd K "JUDGES" (Str.ofString "small"))))) && (tupAB K (tabAd K "JUDGES" (Str.ofString "small")) [V.int 5, V.ref (He.ga K "small_holds")] && (He.eqO (PySem.W.nsIn K (He.ga K "JUDGES") (Str.ofString "never")) (some (some (.ref (tabAd K "JUDGES" (Str.ofString "never"))))) && (tupAB K (tabAd K "JUDGES" (Str.ofString "never")) [V.int 4, V.ref (He.ga K "never_holds")] && (He.eqO (PySem.W.nsIn K (He.ga K "JUDGES") (Str.ofString "alike")) (some (some (.ref (tabAd K "JUDGES" (Str.ofString "alike"))))) && (tupAB K (tabAd K "JUDGES" (Str.ofString "alike")) [V.int 4, V.ref (He.ga K "alike_holds")] && (He.eqO (PySem.W.nsIn K (He.ga K "JUDGES") (Str.ofString "core")) (some (some (.ref (tabAd K "JUDGES" (Str.ofString "core"))))) && (tupAB K (tabAd K "JUDGES" (Str.ofString "core")) [V.int 4, V.ref (He.ga K "core_holds")] && (insOB K csL && (outsB K outsL && (eqsB K csL)))))))))))))))))
def lstObj (o : Obj) : Bool := match o.cls with
  | .type c => decide (c = "list")
  | _ => false
def frL (g : Addr → Option Obj) (as : List Addr) : PySem.W.Frag := (He.frG g as).filter fun q => !lstObj q.2
theorem frL_mem {g : Addr → Option Obj} {as : List Addr} {a : Addr} {o : Obj} (h : (frL g as).lookup a = some o) : g a = some o ∧ lstObj o = false := by
  have m := He.lookup_mem h
  obtain ⟨m1, m2⟩ := List.mem_filter.mp m
  exact ⟨He.frG_mem m1, by simpa using m2⟩
/-- what is reached from the module's names, level by level, each once (a mask of bits tells what was met) -/
def refsAt (g : Addr → Option Obj) (a : Addr) : List Addr := match g a with
  | some o => He.refsD o
  | none => []
def frN {α : Type} (n : Nat) (k : Nat → α) : α := match n with
  | 0 => k 0
  | m + 1 => k (m + 1)
def newOnes {α : Type} (k : Nat → List Addr → α) : List Addr → Nat → List Addr → α
  | [], vis, out => k vis out
  | a :: as, vis, out => match Nat.land (Nat.shiftRight vis a) 1 with
    | 0 => frN (Nat.lor vis (Nat.shiftLeft 1 a)) fun vis => newOnes k as vis (a :: out)
    | _ => newOnes k as vis out
def levels (g : Addr → Option Obj) : Nat → Nat → List Addr → List Addr
  | 0, _, fr => fr
  | n + 1, vis, fr => fr ++ newOnes (fun vis new => levels g n vis new) (fr.flatMap (refsAt g)) vis []
def asB (g : Addr → Option Obj) (n : Nat) : List Addr := levels g n (Nat.shiftLeft 1 mainGlobals) [mainGlobals]
def hts : List He.Tab := [(fun K => He.ga K "JUDGES", ["yes", "no", "small", "never", "alike", "core"])]
def obsL (n : Nat) (g : Addr → Option Obj) : He.AlT × Bool := (He.obsT hfa hfn hts (frL g (asB g n)), exB (frL g (asB g n)))
def hookL (n : Nat) : PySem.W.Hook where
  α := He.AlT × Bool
  obs := fun s => obsL n s.heap.get?
  val := fun w => (He.valT hfn hts w, true)
  says := fun w h => ∃ K : PySem.W.Frag, K.In h ∧ He.SaysT hfa hfn hts w K ∧ exB K = true ∧ ∀ a o, K.lookup a = some o → lstObj o = false
  of := fun _ _ e => ⟨_, fun _ _ q => (frL_mem q).1, congrArg Prod.fst e, congrArg Prod.snd e, fun _ _ q => (frL_mem q).2⟩
  keeps := fun _ _ _ ⟨K, hK, c⟩ k => ⟨K, PySem.W.Frag.In.keeps hK k, c⟩
theorem obsL_eq {n : Nat} {g : Addr → Option Obj} {s : Shared} (h : ∀ a, g a = s.heap.get? a) : obsL n g = (hookL n).obs s := by
  have e : g = s.heap.get? := funext h
  rw [e]
  rfl
theorem fx_of {w : World} {K : PySem.W.Frag} {mg : Str → Option Value} {h : Heap} (X : K.In h) (G : h.Ns mainGlobals mg) (ct : He.SaysT hfa hfn hts w K) (e : exB K = true) : Fx w K mg := by
  have c := ct.d
  simp only [exB, Bool.and_eq_true] at e
  obtain ⟨e0, e1, e2, e3, e4, e5, e6, e7, e8, e9, e10, e11, e12, e13, e14, e15, e16, e17⟩ := e
  exact { c := c, g_ADDED := He.glo_ok X G (c.fact 0 (f := .glo "ADDED") rfl), g_Book := He.glo_ok X G (c.fact 1 (f := .glo "Book") rfl), g_Ground := He.glo_ok X G (c.fact 2 (f := .glo "Ground") rfl), g_JUDGES := He.glo_ok X G (c.fact 3 (f := .glo "JUDGES") rfl), g_OF_CLAUSE := He.glo_ok X G (c.fact 4 (f := .glo "OF_CLAUSE") rfl), g_Standing := He.glo_ok X G (c.fact 5 (f := .glo "Standing") rfl), g_WORDS := He.glo_ok X G (c.fact 6 (f := .glo "WORDS") rfl), g_Work := He.glo_ok X G (c.fact 7 (f := .glo "Work") rfl), g__law_bad := He.glo_ok X G (c.fact 8 (f := .glo "_law_bad") rfl), g__law_cell := He.glo_ok X G (c.fact 9 (f := .glo "_law_cell") rfl), g__law_good := He.glo_ok X G (c.fact 10 (f := .glo "_law_good") rfl), g__law_is_fit := He.glo_ok X G (c.fact 11 (f := .glo "_law_is_fit") rfl), g__law_pick := He.glo_ok X G (c.fact 12 (f := .glo "_law_pick") rfl), g__law_purse := He.glo_ok X G (c.fact 13 (f := .glo "_law_purse") rfl), g__law_things := He.glo_ok X G (c.fact 14 (f := .glo "_law_things") rfl), g_alike_holds := He.glo_ok X G (c.fact 15 (f := .glo "alike_holds") rfl), g_are_book := He.glo_ok X G (c.fact 16 (f := .glo "are_book") rfl), g_are_clauses := He.glo_ok X G (c.fact 17 (f := .glo "are_clauses") rfl), g_are_lits := He.glo_ok X G (c.fact 18 (f := .glo "are_lits") rfl), g_are_numbers := He.glo_ok X G (c.fact 19 (f := .glo "are_numbers") rfl), g_check_book := He.glo_ok X G (c.fact 20 (f := .glo "check_book") rfl), g_come := He.glo_ok X G (c.fact 21 (f := .glo "come") rfl), g_contraries := He.glo_ok X G (c.fact 22 (f := .glo "contraries") rfl), g_core_holds := He.glo_ok X G (c.fact 23 (f := .glo "core_holds") rfl), g_first_wrong := He.glo_ok X G (c.fact 24 (f := .glo "first_wrong") rfl), g_fits_by := He.glo_ok X G (c.fact 25 (f := .glo "fits_by") rfl), g_follows_of := He.glo_ok X G (c.fact 26 (f := .glo "follows_of") rfl), g_goes_by := He.glo_ok X G (c.fact 27 (f := .glo "goes_by") rfl), g_gone := He.glo_ok X G (c.fact 28 (f := .glo "gone") rfl), g_greatest_letter := He.glo_ok X G (c.fact 29 (f := .glo "greatest_letter") rfl), g_ground_by := He.glo_ok X G (c.fact 30 (f := .glo "ground_by") rfl), g_ground_of := He.glo_ok X G (c.fact 31 (f := .glo "ground_of") rfl), g_holds := He.glo_ok X G (c.fact 32 (f := .glo "holds") rfl), g_is_clause := He.glo_ok X G (c.fact 33 (f := .glo "is_clause") rfl), g_is_entry := He.glo_ok X G (c.fact 34 (f := .glo "is_entry") rfl), g_is_line := He.glo_ok X G (c.fact 35 (f := .glo "is_line") rfl), g_is_lit := He.glo_ok X G (c.fact 36 (f := .glo "is_lit") rfl), g_is_own := He.glo_ok X G (c.fact 37 (f := .glo "is_own") rfl), g_is_set_so := He.glo_ok X G (c.fact 38 (f := .glo "is_set_so") rfl), g_is_setting := He.glo_ok X G (c.fact 39 (f := .glo "is_setting") rfl), g_is_there := He.glo_ok X G (c.fact 40 (f := .glo "is_there") rfl), g_is_whole := He.glo_ok X G (c.fact 41 (f := .glo "is_whole") rfl), g_law := He.glo_ok X G (c.fact 42 (f := .glo "law") rfl), g_made_of := He.glo_ok X G (c.fact 43 (f := .glo "made_of") rfl), g_made_with := He.glo_ok X G (c.fact 44 (f := .glo "made_with") rfl), g_never_holds := He.glo_ok X G (c.fact 45 (f := .glo "never_holds") rfl), g_no_holds := He.glo_ok X G (c.fact 46 (f := .glo "no_holds") rfl), g_resolve := He.glo_ok X G (c.fact 47 (f := .glo "resolve") rfl), g_sets_all := He.glo_ok X G (c.fact 48 (f := .glo "sets_all") rfl), g_small_holds := He.glo_ok X G (c.fact 49 (f := .glo "small_holds") rfl), g_walk := He.glo_ok X G (c.fact 50 (f := .glo "walk") rfl), g_with_one := He.glo_ok X G (c.fact 51 (f := .glo "with_one") rfl), g_without := He.glo_ok X G (c.fact 52 (f := .glo "without") rfl), g_yes_holds := He.glo_ok X G (c.fact 53 (f := .glo "yes_holds") rfl), f_abs := He.free_ok X G (c.fact 54 (f := .free "abs") rfl), f_all := He.free_ok X G (c.fact 55 (f := .free "all") rfl), f_any := He.free_ok X G (c.fact 56 (f := .free "any") rfl), f_bool := He.free_ok X G (c.fact 57 (f := .free "bool") rfl), f_dict := He.free_ok X G (c.fact 58 (f := .free "dict") rfl), f_enumerate := He.free_ok X G (c.fact 59 (f := .free "enumerate") rfl), f_int := He.free_ok X G (c.fact 60 (f := .free "int") rfl), f_isinstance := He.free_ok X G (c.fact 61 (f := .free "isinstance") rfl), f_len := He.free_ok X G (c.fact 62 (f := .free "len") rfl), f_list := He.free_ok X G (c.fact 63 (f := .free "list") rfl), f_max := He.free_ok X G (c.fact 64 (f := .free "max") rfl), f_min := He.free_ok X G (c.fact 65 (f := .free "min") rfl), f_range := He.free_ok X G (c.fact 66 (f := .free "range") rfl), f_repr := He.free_ok X G (c.fact 67 (f := .free "repr") rfl), f_sorted := He.free_ok X G (c.fact 68 (f := .free "sorted") rfl), f_str := He.free_ok X G (c.fact 69 (f := .free "str") rfl), f_tuple := He.free_ok X G (c.fact 70 (f := .free "tuple") rfl), f_zip := He.free_ok X G (c.fact 71 (f := .free "zip") rfl), i_MOST_LETTER := He.int_ok X G (c.fact 72 (f := .int "MOST_LETTER" 40) rfl), i_MOST_CLAUSES := He.int_ok X G (c.fact 73 (f := .int "MOST_CLAUSES" 400) rfl), i_MOST_LINES := He.int_ok X G (c.fact 74 (f := .int "MOST_LINES" 4000) rfl), c_Book := He.cls_ok (c.fact 75 (f := .cls "Book") rfl), mk_Book := He.mkr_ok (c.fact 76 (f := .mkr "Book") rfl), c_Ground := He.cls_ok (c.fact 77 (f := .cls "Ground") rfl), mk_Ground := He.mkr_ok (c.fact 78 (f := .mkr "Ground") rfl), c_Standing := He.cls_ok (c.fact 79 (f := .cls "Standing") rfl), mk_Standing := He.mkr_ok (c.fact 80 (f := .mkr "Standing") rfl), c_Work := He.cls_ok (c.fact 81 (f := .cls "Work") rfl), mk_Work := He.mkr_ok (c.fact 82 (f := .mkr "Work") rfl), n_Book_clauses := He.noat_ok (c.fact 83 (f := .noat "Book" "clauses") rfl), n_Book_letters := He.noat_ok (c.fact 84 (f := .noat "Book" "letters") rfl), n_Ground_book := He.noat_ok (c.fact 85 (f := .noat "Ground" "book") rfl), n_Ground_found := He.noat_ok (c.fact 86 (f := .noat "Ground" "found") rfl), n_Ground_held := He.noat_ok (c.fact 87 (f := .noat "Ground" "held") rfl), n_Ground_tail := He.noat_ok (c.fact 88 (f := .noat "Ground" "tail") rfl), n_Standing_book := He.noat_ok (c.fact 89 (f := .noat "Standing" "book") rfl), n_Standing_found := He.noat_ok (c.fact 90 (f := .noat "Standing" "found") rfl), n_Standing_held := He.noat_ok (c.fact 91 (f := .noat "Standing" "held") rfl), n_Standing_tail := He.noat_ok (c.fact 92 (f := .noat "Standing" "tail") rfl), n_Work_book := He.noat_ok (c.fact 93 (f := .noat "Work" "book") rfl), n_Work_found := He.noat_ok (c.fact 94 (f := .noat "Work" "found") rfl), n_Work_ground := He.noat_ok (c.fact 95 (f := .noat "Work" "ground") rfl), n_Work_held := He.noat_ok (c.fact 96 (f := .noat "Work" "held") rfl), n_Work_log := He.noat_ok (c.fact 97 (f := .noat "Work" "log") rfl), n_Work_most := He.noat_ok (c.fact 98 (f := .noat "Work" "most") rfl), n_Work_tail := He.noat_ok (c.fact 99 (f := .noat "Work" "tail") rfl), m_Work_show := He.meth_ok (c.fact 100 (f := .meth "Work" "show") rfl), m_Ground_is_near := He.meth_ok (c.fact 101 (f := .meth "Ground" "is_near") rfl), m_Ground_all_there := He.meth_ok (c.fact 102 (f := .meth "Ground" "all_there") rfl), m_Ground_takes_add := He.meth_ok (c.fact 103 (f := .meth "Ground" "takes_add") rfl), m_Ground_takes_found := He.meth_ok (c.fact 104 (f := .meth "Ground" "takes_found") rfl), m_Ground_others := He.meth_ok (c.fact 105 (f := .meth "Ground" "others") rfl), m_Ground_takes_drop := He.meth_ok (c.fact 106 (f := .meth "Ground" "takes_drop") rfl), m_Ground_takes_leave := He.meth_ok (c.fact 107 (f := .meth "Ground" "takes_leave") rfl), m_Ground_is_clean := He.meth_ok (c.fact 108 (f := .meth "Ground" "is_clean") rfl), m_Ground_has_room := He.meth_ok (c.fact 109 (f := .meth "Ground" "has_room") rfl), m_Ground_takes_put := He.meth_ok (c.fact 110 (f := .meth "Ground" "takes_put") rfl), m_Ground_takes_back := He.meth_ok (c.fact 111 (f := .meth "Ground" "takes_back") rfl), m_Ground_takes := He.meth_ok (c.fact 112 (f := .meth "Ground" "takes") rfl), m_Ground_hold := He.meth_ok (c.fact 113 (f := .meth "Ground" "hold") rfl), m_Ground_lose := He.meth_ok (c.fact 114 (f := .meth "Ground" "lose") rfl), m_Ground_do := He.meth_ok (c.fact 115 (f := .meth "Ground" "do") rfl), m_Book___eq__ := He.meth_ok (c.fact 116 (f := .meth "Book" "__eq__") rfl), m_Standing___eq__ := He.meth_ok (c.fact 117 (f := .meth "Standing" "__eq__") rfl), m_Work___eq__ := He.meth_ok (c.fact 118 (f := .meth "Work" "__eq__") rfl), m_Book___repr__ := He.meth_ok (c.fact 119 (f := .meth "Book" "__repr__") rfl), m_Standing___repr__ := He.meth_ok (c.fact 120 (f := .meth "Standing" "__repr__") rfl), m_Work___str__ := He.meth_ok (c.fact 121 (f := .meth "Work" "__str__") rfl), m_Work___repr__ := He.meth_ok (c.fact 122 (f := .meth "Work" "__repr__") rfl), t_OF_CLAUSE := tupAB_ok e0, t_ADDED := tupAB_ok e1, t_WORDS := tupAB_ok e2, ta_JUDGES_yes := He.eqO_ok e3, tt_JUDGES_yes := tupAB_ok e4, ta_JUDGES_no := He.eqO_ok e5, tt_JUDGES_no := tupAB_ok e6, ta_JUDGES_small := He.eqO_ok e7, tt_JUDGES_small := tupAB_ok e8, ta_JUDGES_never := He.eqO_ok e9, tt_JUDGES_never := tupAB_ok e10, ta_JUDGES_alike := He.eqO_ok e11, tt_JUDGES_alike := tupAB_ok e12, ta_JUDGES_core := He.eqO_ok e13, tt_JUDGES_core := tupAB_ok e14, own := id e15, out := id e16, owe := id e17, td_JUDGES := ct.tab 0 }
abbrev R72 : PySem.W.OpenRow := PySem.W.OpenLaw.row PySem.Challenge.rw_clauseshrink_k72_claims_that_are_none
def obK (s : PySem.W.SharedT) : He.AlT × Bool := obsL 5 (HandSHeadRun.getT s)
theorem obK_eq (s : PySem.W.SharedT) : obK s = (hookL 5).obs s.abs := obsL_eq (HandSHeadRun.getT_eq s)
def loose72 : List Str := ([Str.ofString "_wall", Str.ofString "__name__", Str.ofString "ClauseError", Str.ofString "StandError", Str.ofString "RoomError", Str.ofString "NoClause", Str.ofString "NoLetter", Str.ofString "NoBook", Str.ofString "NoCount", Str.ofString "NoLine", Str.ofString "Full", Str.ofString "MOST_LETTER", Str.ofString "is_whole", Str.ofString "is_lit", Str.ofString "is_clause", Str.ofString "check_clause", Str.ofString "greatest_letter", Str.ofString "contraries", Str.ofString "made_of", Str.ofString "resolve", Str.ofString "MOST_CLAUSES", Str.ofString "row_text", Str.ofString "is_own", Str.ofString "first_wrong", Str.ofString "Book", Str.ofString "check_book", Str.ofString "walk", Str.ofString "come", Str.ofString "follows_of", Str.ofString "made_with", Str.ofString "goes_by", Str.ofString "OF_CLAUSE", Str.ofString "is_line", Str.ofString "with_one", Str.ofString "without"] : List Str) ++ ([Str.ofString "Ground", Str.ofString "Standing", Str.ofString "ground_by", Str.ofString "gone", Str.ofString "is_set_so", Str.ofString "is_setting", Str.ofString "fits_by", Str.ofString "are_book", Str.ofString "are_lits", Str.ofString "are_clauses", Str.ofString "is_entry", Str.ofString "are_numbers", Str.ofString "ground_of", Str.ofString "is_there", Str.ofString "sets_all", Str.ofString "ADDED", Str.ofString "WORDS", Str.ofString "yes_holds", Str.ofString "no_holds", Str.ofString "small_holds", Str.ofString "never_holds", Str.ofString "alike_holds", Str.ofString "core_holds", Str.ofString "JUDGES", Str.ofString "holds", Str.ofString "wanted_by", Str.ofString "MOST_LINES", Str.ofString "Work", Str.ofString "_law_cell", Str.ofString "_law_purse", Str.ofString "_law_pick", Str.ofString "_law_things", Str.ofString "_law_good", Str.ofString "_law_is_fit", Str.ofString "_law_bad"] : List Str)
theorem run72f (w : World) : HandSHeadRun.RunEq R72 (PySem.W.view R72.prog [81]) (hookL 5) obK 6200 loose72 (w.withFollow "special-get-raises" false) := fun os => by kernel_rfl
theorem run72t (w : World) : HandSHeadRun.RunEq R72 (PySem.W.view R72.prog [81]) (hookL 5) obK 6200 loose72 (w.withFollow "special-get-raises" true) := fun os => by kernel_rfl
theorem run72 (w : World) : HandSHeadRun.RunEq R72 (PySem.W.view R72.prog [81]) (hookL 5) obK 6200 loose72 w :=
  PySem.W.byRow2 "special-get-raises" (P := fun w => HandSHeadRun.RunEq R72 (PySem.W.view R72.prog [81]) (hookL 5) obK 6200 loose72 w) run72f run72t w
end MM
set_option Elab.async false
set_option linter.all false
set_option maxRecDepth 100000
set_option maxHeartbeats 0
/-! Plain: cells, purses, picks. -/
namespace MM
open PySem PySem.Spec PyProof.Rows L2
theorem pfrees_ints : ∀ ns : List Int, pfrees (ns.map AV.int) = true
  | [] => rfl
  | n :: ns => by simp [pfrees, pfree, pfrees_ints ns]
theorem pureM_st {z : List AV → Z} {avs : List AV} {v : AV} (h : pureM z avs [] = .ok v []) (st : Sto) : pureM z avs st = .ok v st := by
  unfold pureM at h ⊢
  by_cases hp : pfrees avs = true
  · rw [if_pos hp] at h ⊢
    cases e : z avs with
    | ok w => rw [e] at h; simp only [R.ok.injEq, and_true] at h; simp only [h]
    | exc e1 => rw [e] at h; cases h
    | stuck => rw [e] at h; cases h
  · rw [if_neg hp] at h; cases h
theorem setItM_l {n : Nat} {st : Sto} {xs : List AV} {i : Int} {k : Nat} {v : AV} (h : st[n]? = some (.lst xs)) (hj : ixN xs.length i = some k) : setItM (.ptr n) (.int i) v st = some (st.set n (.lst (xs.set k v))) := by
  simp only [setItM, h, hj]
theorem ixM_l {n : Nat} {st : Sto} {xs : List AV} {i : Int} {v : AV} (h : st[n]? = some (.lst xs)) (hj : atI xs i = some v) : ixM (.ptr n) (.int i) st = .ok v st := by
  simp only [ixM, deS, deT, deL, h, hj]
theorem sSeq_n {a b : Fr → Sto → RS} {fr fr1 : Fr} {st st1 : Sto} (h : a fr st = .ok .next fr1 st1) : sSeq a b fr st = b fr1 st1 := by
  simp only [sSeq, h, RS.seq_next]
theorem sSeq_r {a b : Fr → Sto → RS} {fr fr1 : Fr} {st st1 : Sto} {v : AV} (h : a fr st = .ok (.ret v) fr1 st1) : sSeq a b fr st = .ok (.ret v) fr1 st1 := by
  simp only [sSeq, h, RS.seq_ret]
theorem rep_mod (z j : Int) (st : Sto) : repM (.int (z % 1000000021)) (.int j) st = .ok (.int (z % 1000000021 * j)) st := by
  simp only [repM]
  rw [if_pos (by omega)]
theorem rep_60013 (j : Int) (st : Sto) : repM (.int 60013) (.int j) st = .ok (.int (60013 * j)) st := rfl
theorem cat_int (i j : Int) (st : Sto) : catM (.int i) (.int j) st = .ok (.int (i + j)) st := rfl
theorem mod_pos {i j : Int} (h : 0 < j) (st : Sto) : modM (.int i) (.int j) st = .ok (.int (i % j)) st := by
  simp only [modM, iIc, h, decide_true, if_true]
theorem fdiv_pos {i j : Int} (h : 0 < j) (h1 : j < 1073741824) (st : Sto) : fdivM (.int i) (.int j) st = .ok (.int (i / j)) st := by
  simp only [fdivM, iIc, h, h1, and_self, decide_true, if_true]
theorem pick_ok {st : Sto} {n : Nat} {a b c m : Int} (h : st[n]? = some (.lst [.int a, .int b, .int c])) (h0 : 0 < m) (h1 : m < 1073741824) :
    ∃ t a' b' c', 0 ≤ t ∧ t < m ∧ p_law_pick [.ptr n, .int m] st = .ok (.int t) (st.set n (.lst [.int a', .int b', .int c'])) := by
  have hn : n < st.length := (List.getElem?_eq_some_iff.mp h).1
  have s1 : ∀ v : Ob, (st.set n v)[n]? = some v := fun v => by rw [List.getElem?_set_self hn]
  have g0 : ∀ x y z : AV, ixM (.ptr n) (.int 0) (st.set n (.lst [x, y, z])) = .ok x (st.set n (.lst [x, y, z])) := fun x y z => ixM_l (s1 _) rfl
  have g1 : ∀ x y z : AV, ixM (.ptr n) (.int 1) (st.set n (.lst [x, y, z])) = .ok y (st.set n (.lst [x, y, z])) := fun x y z => ixM_l (s1 _) rfl
  have g2 : ∀ x y z : AV, ixM (.ptr n) (.int 2) (st.set n (.lst [x, y, z])) = .ok z (st.set n (.lst [x, y, z])) := fun x y z => ixM_l (s1 _) rfl
  have g2' : ixM (.ptr n) (.int 2) st = .ok (.int c) st := ixM_l h rfl
  have p2' : ∀ v, setItM (.ptr n) (.int 2) v st = some (st.set n (.lst [.int a, .int b, v])) := fun v => setItM_l (k := 2) h rfl
  have p0 : ∀ x y z v : AV, setItM (.ptr n) (.int 0) v (st.set n (.lst [x, y, z])) = some (st.set n (.lst [v, y, z])) := fun x y z v => by
    rw [setItM_l (k := 0) (s1 _) rfl, List.set_set]; rfl
  have p1 : ∀ x y z v : AV, setItM (.ptr n) (.int 1) v (st.set n (.lst [x, y, z])) = some (st.set n (.lst [x, v, z])) := fun x y z v => by
    rw [setItM_l (k := 1) (s1 _) rfl, List.set_set]; rfl
  have M1 : (0 : Int) < 1000000021 := by decide
  have M2 : (0 : Int) < 40009 := by decide
  have M3 : (0 : Int) < 16 := by decide
  have M4 : (16 : Int) < 1073741824 := by decide
  have step : ∃ a2 c2, p_law_pick [.ptr n, .int m] st = .ok (.int (if 0 < b then b % m else a2 % 1000000021 / 16 % m)) (st.set n (.lst [.int a2, .int (if 0 < b then b / m else b), .int c2])) := by
    refine ⟨a % 1000000021 * (a % 1000000021 % 40009 + 20021) + 60013 * (c + 1), c + 1, ?_⟩
    unfold p_law_pick runK
    have e : b_law_pick (startF N_law_pick.length [.ptr n, .int m]) st = .ok (.ret (.int (if 0 < b then b % m else (a % 1000000021 * (a % 1000000021 % 40009 + 20021) + 60013 * (c + 1)) % 1000000021 / 16 % m))) (if 0 < b then [some (.ptr n), some (.int m), some (.int (a % 1000000021)), some (.int (b % m))] else [some (.ptr n), some (.int m), some (.int (a % 1000000021)), none]) (st.set n (.lst [.int (a % 1000000021 * (a % 1000000021 % 40009 + 20021) + 60013 * (c + 1)), .int (if 0 < b then b / m else b), .int (c + 1)])) := by
      show b_law_pick [some (.ptr n), some (.int m), none, none] st = _
      unfold b_law_pick
      rw [sSeq_n (fr1 := [some (.ptr n), some (.int m), none, none]) (st1 := st.set n (.lst [.int a, .int b, .int (c + 1)])) (by
        simp [sAsgG, gItem, m2, mVar, mC, g2', cat_int, p2'])]
      rw [sSeq_n (fr1 := [some (.ptr n), some (.int m), some (.int (a % 1000000021)), none]) (st1 := st.set n (.lst [.int a, .int b, .int (c + 1)])) (by
        simp [sAsg, m2, mVar, mC, g0, mod_pos M1, setTgt])]
      rw [sSeq_n (fr1 := [some (.ptr n), some (.int m), some (.int (a % 1000000021)), none]) (st1 := st.set n (.lst [.int (a % 1000000021 * (a % 1000000021 % 40009 + 20021) + 60013 * (c + 1)), .int b, .int (c + 1)])) (by
        simp [sAsgG, gItem, m2, mVar, mC, g2, g0, cat_int, p0, mod_pos M2, rep_mod, rep_60013])]
      by_cases hb : 0 < b
      · rw [sSeq_r (fr1 := [some (.ptr n), some (.int m), some (.int (a % 1000000021)), some (.int (b % m))]) (v := .int (b % m)) (st1 := st.set n (.lst [.int (a % 1000000021 * (a % 1000000021 % 40009 + 20021) + 60013 * (c + 1)), .int (b / m), .int (c + 1)])) (by
          simp [sIf, mB, m2, mVar, mC, g1, gtM, iI, hb, sSeq, sAsg, sAsgG, gItem, mod_pos h0, fdiv_pos h0 h1, setTgt, p1, sRet])]
        simp only [hb, if_true]
      · rw [sSeq_n (fr1 := [some (.ptr n), some (.int m), some (.int (a % 1000000021)), none]) (st1 := st.set n (.lst [.int (a % 1000000021 * (a % 1000000021 % 40009 + 20021) + 60013 * (c + 1)), .int b, .int (c + 1)])) (by
          simp [sIf, mB, m2, mVar, mC, g1, gtM, iI, hb, sNext])]
        simp only [hb, if_false]
        simp [sRet, m2, mVar, mC, g0, mod_pos M1, fdiv_pos M3 M4, mod_pos h0]
    rw [e]
  obtain ⟨a2, c2, e⟩ := step
  refine ⟨_, a2, _, c2, ?_, ?_, e⟩
  · split <;> exact Int.emod_nonneg _ (by omega)
  · split <;> exact Int.emod_lt_of_pos _ h0
theorem rep_50021 (j : Int) (st : Sto) : repM (.int 50021) (.int j) st = .ok (.int (50021 * j)) st := rfl
theorem rep_3 (j : Int) (st : Sto) : repM (.int 3) (.int j) st = .ok (.int (3 * j)) st := rfl
theorem rep_small {k : Int} (h0 : 0 ≤ k) (h1 : k ≤ 100) (j : Int) (st : Sto) : repM (.int k) (.int j) st = .ok (.int (k * j)) st := by
  simp only [repM]
  rw [if_pos (by omega)]
abbrev cellBody : Fr → Sto → RS := sAsg (.nm 2) (m2 modM (m2 catM (m2 repM (mVar 2) (mC (.int 20011))) (mVar 3)) (mC (.int 1000000021)))
theorem cell_loop {I : Its} (hI : I.gd = none) : ∀ (ms : List Int) (s k : AV) (z : Int) (x : Option AV) (st : Sto), ∃ z' x', forL I (.nm 3) cellBody (ms.map AV.int) [some s, some k, some (.int (z % 1000000021)), x] st = .ok .next [some s, some k, some (.int (z' % 1000000021)), x'] st
  | [], s, k, z, x, st => ⟨z, x, by simp [forL, gdok, gdokB, hI]⟩
  | m :: ms, s, k, z, x, st => by
    obtain ⟨z', x', e⟩ := cell_loop hI ms s k (z % 1000000021 * 20011 + m) (some (.int m)) st
    refine ⟨z', x', ?_⟩
    rw [List.map_cons]
    unfold forL
    have M1 : (0 : Int) < 1000000021 := by decide
    have eb : cellBody [some s, some k, some (.int (z % 1000000021)), some (.int m)] st = .ok .next [some s, some k, some (.int ((z % 1000000021 * 20011 + m) % 1000000021)), some (.int m)] st := by
      simp [cellBody, sAsg, m2, mVar, mC, rep_mod, cat_int, mod_pos M1, setTgt]
    simp only [setTgt, List.set_cons_succ, List.set_cons_zero]
    rw [if_pos (show gdok I st by simp [gdok, gdokB, hI]), eb]
    exact e
theorem cutA_ints (ns : List Int) (lo hi : Option Int) : ∃ ms : List Int, cutA (ns.map AV.int) lo hi = ms.map AV.int := by
  unfold cutA
  rw [← List.map_drop, ← List.map_take]
  exact ⟨_, rfl⟩
theorem pureM_ret {n : Nat} {b : Fr → Sto → RS} {avs : List AV} {v : AV} {fr : Fr} {st1 : Sto} (hp : pfrees avs = true) (hb : b (startF n avs) [] = .ok (.ret v) fr st1) (hv : frz st1 v = some v) (st : Sto) : pureM (runZ n b) avs st = .ok v st := by
  unfold pureM runZ
  rw [if_pos hp, hb]
  simp only [hv]
theorem pureM_next {n : Nat} {b : Fr → Sto → RS} {avs : List AV} {fr : Fr} {st1 : Sto} (hp : pfrees avs = true) (hb : b (startF n avs) [] = .ok .next fr st1) (st : Sto) : pureM (runZ n b) avs st = .ok .non st := by
  unfold pureM runZ
  rw [if_pos hp, hb]
theorem cell_ok (ns : List Int) {k : Int} (h0 : 0 ≤ k) (h1 : k ≤ 100) (st : Sto) : ∃ z, p_law_cell [.lst (ns.map AV.int), .int k] st = .ok (.int z) st := by
  have hp : pfrees [.lst (ns.map AV.int), .int k] = true := by simp [pfrees, pfree, pfrees_ints]
  have M1 : (0 : Int) < 1000000021 := by decide
  have key : ∃ z fr, b_law_cell [some (.lst (ns.map AV.int)), some (.int k), none, none] [] = .ok (.ret (.int z)) fr [] := by
    unfold b_law_cell
    by_cases hk : k < (ns.length : Int)
    · have e : (ns.map AV.int)[k.toNat]? = some (.int (ns[k.toNat]'(by omega))) := by
        rw [List.getElem?_map, List.getElem?_eq_getElem (by omega)]
        rfl
      have ea : atI (ns.map AV.int) k = some (.int (ns[k.toNat]'(by omega))) := by
        simp only [atI, ixN, List.length_map]
        rw [if_pos h0, if_pos hk]
        exact e
      refine ⟨_, _, sSeq_r (fr1 := [some (.lst (ns.map AV.int)), some (.int k), none, none]) (v := .int (ns[k.toNat]'(by omega))) ?_⟩
      simp [sIf, mB, m2, mVar, mL, mCons, mNil, lenM, deS, deT, deL, ltM, iI, hk, sRet, ixM, ea]
    · rw [sSeq_n (fr1 := [some (.lst (ns.map AV.int)), some (.int k), none, none]) (st1 := []) (by
        simp [sIf, mB, m2, mVar, mL, mCons, mNil, lenM, deS, deT, deL, ltM, iI, hk, sNext])]
      rw [sSeq_n (fr1 := [some (.lst (ns.map AV.int)), some (.int k), some (.int ((50021 * (k * k + 3 * k + 17)) % 1000000021)), none]) (st1 := []) (by
        simp [sAsg, m2, mVar, mC, rep_50021, rep_3, rep_small h0 h1, cat_int, mod_pos M1, setTgt])]
      obtain ⟨ms, ec⟩ := cutA_ints ns none (some 4)
      obtain ⟨z', x', e⟩ := cell_loop (I := ⟨ms.map AV.int, none⟩) rfl ms (.lst (ns.map AV.int)) (.int k) (50021 * (k * k + 3 * k + 17)) none []
      rw [sSeq_n (fr1 := [some (.lst (ns.map AV.int)), some (.int k), some (.int (z' % 1000000021)), x']) (st1 := []) (by
        simp only [sFor, mIter, mSlice, mVar, mPart, mC, List.getElem?_cons_zero, R.bind_ok, cutM, deT, deL, ec, itsOf, RS.of_ok]
        exact e)]
      exact ⟨_, _, rfl⟩
  obtain ⟨z, fr, e⟩ := key
  exact ⟨z, pureM_ret hp e rfl st⟩
theorem purse_ok (z : Int) (st : Sto) : ∃ a b, p_law_purse [.int z] st = .ok (.ptr st.length) (st ++ [.lst [.int a, .int b, .int 0]]) := by
  have M1 : (0 : Int) < 1000000021 := by decide
  refine ⟨z % 1000000021 * 6007 + 2711, if 1000000000000000000 ≤ z then z else 0, ?_⟩
  have e : b_law_purse [some (.int z)] st = .ok (.ret (.ptr st.length)) [some (.int z)] (st ++ [.lst [.int (z % 1000000021 * 6007 + 2711), .int (if 1000000000000000000 ≤ z then z else 0), .int 0]]) := by
    unfold b_law_purse
    have i0 : ∀ x y : AV, atI [x, y] 0 = some x := fun _ _ => rfl
    have i1 : ∀ x y : AV, atI [x, y] 1 = some y := fun _ _ => rfl
    have pw : powM (.int 10) (.int 18) st = .ok (.int 1000000000000000000) st := by rfl
    by_cases hz : 1000000000000000000 ≤ z
    · simp [sRet, mL, mCons, mNil, m2, mVar, mC, mod_pos M1, rep_mod, cat_int, lstM, pw, geM, iI, hz, intM, ixM, deS, deT, deL, i0, i1, newM]
    · simp [sRet, mL, mCons, mNil, m2, mVar, mC, mod_pos M1, rep_mod, cat_int, lstM, pw, geM, iI, hz, intM, ixM, deS, deT, deL, i0, i1, newM]
  unfold p_law_purse runK
  rw [show startF N_law_purse.length [.int z] = [some (.int z)] from rfl, e]
end MM
set_option Elab.async false
set_option linter.all false
set_option maxRecDepth 100000
set_option maxHeartbeats 0
/-! Plain: what is told over the empty store is told over any. -/
namespace MM
open PySem PySem.Spec PyProof.Rows L2
abbrev GG (fr : Fr) {α : Type} (m : Fr → M α) : Prop := ∀ v s1, m fr [] = .ok v s1 → s1 = [] ∧ ∀ st, m fr st = .ok v st
theorem gg_bind {fr : Fr} {α β : Type} {m : Fr → M α} {k : α → Fr → M β} (hm : GG fr m) (hk : ∀ a, GG fr (k a)) : GG fr (fun fr st => (m fr st).bind fun a st1 => k a fr st1) := fun v s1 h => by
  cases e : m fr [] with
  | ok a s2 =>
    obtain ⟨rfl, h2⟩ := hm _ _ e
    simp only [e, R.bind_ok] at h
    obtain ⟨rfl, h3⟩ := hk a _ _ h
    exact ⟨rfl, fun st => by simp only [h2 st, R.bind_ok, h3 st]⟩
  | exc x s2 => simp only [e, R.bind_exc] at h; cases h
  | stuck => simp only [e, R.bind_stuck] at h; cases h
theorem gg_ok {fr : Fr} {α : Type} {a : α} : GG fr (fun _ st => R.ok a st) := fun v s1 h => by cases h; exact ⟨rfl, fun _ => rfl⟩
theorem gg_stuck {fr : Fr} {α : Type} : GG fr (fun _ _ => (R.stuck : R α)) := fun v s1 h => by cases h
theorem gg_if {fr : Fr} {α : Type} {c : Prop} [Decidable c] {a b : Fr → M α} (ha : GG fr a) (hb : GG fr b) : GG fr (fun fr st => if c then a fr st else b fr st) := by
  by_cases h : c
  · simpa only [if_pos h] using ha
  · simpa only [if_neg h] using hb
variable {fr : Fr}
theorem gg_var {i : Nat} : GG fr (mVar i) := fun v s1 h => by
  unfold mVar at h ⊢
  split at h
  · cases h; exact ⟨rfl, fun _ => rfl⟩
  · cases h
theorem gg_c {v : AV} : GG fr (mC v) := gg_ok
abbrev O1 (f : AV → M AV) : Prop := ∀ v x s1, f v [] = .ok x s1 → s1 = [] ∧ ∀ st, f v st = .ok x st
abbrev O2 (f : AV → AV → M AV) : Prop := ∀ v w x s1, f v w [] = .ok x s1 → s1 = [] ∧ ∀ st, f v w st = .ok x st
abbrev OL (f : List AV → M AV) : Prop := ∀ v x s1, f v [] = .ok x s1 → s1 = [] ∧ ∀ st, f v st = .ok x st
theorem gg_m1 {f : AV → M AV} {m : Fr → M AV} (hf : O1 f) (hm : GG fr m) : GG fr (m1 f m) := gg_bind (k := fun v _ => f v) hm fun a v s1 h => hf a v s1 h
theorem gg_m2 {f : AV → AV → M AV} {a b : Fr → M AV} (hf : O2 f) (ha : GG fr a) (hb : GG fr b) : GG fr (m2 f a b) := gg_bind (k := fun v fr st => (b fr st).bind fun w st2 => f v w st2) ha fun v => gg_bind (k := fun w _ => f v w) hb fun w x s1 h => hf v w x s1 h
theorem gg_mL {f : List AV → M AV} {m : Fr → M (List AV)} (hf : OL f) (hm : GG fr m) : GG fr (mL f m) := gg_bind (k := fun v _ => f v) hm fun a v s1 h => hf a v s1 h
theorem gg_nil : GG fr mNil := gg_ok
theorem gg_cons {m : Fr → M AV} {n : Fr → M (List AV)} (hm : GG fr m) (hn : GG fr n) : GG fr (mCons m n) := gg_bind (k := fun v fr st => (n fr st).bind fun vs st2 => .ok (v :: vs) st2) hm fun v => gg_bind (k := fun vs _ st => .ok (v :: vs) st) hn fun _ => gg_ok
theorem gg_mB {m : Fr → M AV} (hm : GG fr m) : GG fr (mB m) := gg_bind (k := fun v _ st1 => match v with
  | .bl b => R.ok b st1
  | _ => .stuck) hm fun v => by cases v <;> first | exact gg_ok | exact gg_stuck
theorem gg_and {t u : Fr → M Bool} (ht : GG fr t) (hu : GG fr u) : GG fr (bAnd t u) := gg_bind (k := fun b fr st1 => if b = true then u fr st1 else .ok false st1) ht fun b => gg_if hu gg_ok
theorem gg_or {t u : Fr → M Bool} (ht : GG fr t) (hu : GG fr u) : GG fr (bOr t u) := gg_bind (k := fun b fr st1 => if b = true then .ok true st1 else u fr st1) ht fun b => gg_if gg_ok hu
theorem gg_not {t : Fr → M Bool} (ht : GG fr t) : GG fr (bNot t) := gg_bind (k := fun b _ st1 => .ok (!b) st1) ht fun b => gg_ok
theorem gg_callF {n : Nat} {z : List AV → Z} {ma : Fr → M (List AV)} (h : GG fr ma) : GG fr (mCallF n (pureM z) [] ma) := gg_bind (k := fun avs _ st1 => if (avs ++ []).length = n then pureM z (avs ++ []) st1 else .stuck) h fun avs => gg_if (fun v s1 h => by
    have e : s1 = [] := by
      unfold pureM at h
      by_cases hp : pfrees (avs ++ []) = true
      · rw [if_pos hp] at h
        split at h
        · cases h; rfl
        · cases h
        · cases h
      · rw [if_neg hp] at h; cases h
    subst e
    exact ⟨rfl, fun st => pureM_st h st⟩) gg_stuck
theorem deL_nil {v : AV} {xs : List AV} (h : deL [] v = some xs) (st : Sto) : deL st v = some xs := by
  cases v with
  | ptr n => simp [deL] at h
  | _ => exact h
theorem deS_nil {v : AV} {xs : List AV} (h : deS [] v = some xs) (st : Sto) : deS st v = some xs := by
  unfold deS at h ⊢
  split at h
  · exact h
  · exact deL_nil h st
theorem o_tupM : OL tupM := fun vs x s1 h => by
  unfold tupM at h ⊢
  split at h
  · rename_i hz; cases h; exact ⟨rfl, fun st => by rw [if_pos hz]⟩
  · cases h
theorem o_lstM : OL lstM := fun vs x s1 h => by
  unfold lstM at h ⊢
  split at h
  · rename_i hz; cases h; exact ⟨rfl, fun st => by rw [if_pos hz]⟩
  · cases h
theorem o_ixM : O2 ixM := fun v w x s1 h => by
  unfold ixM at h ⊢
  split at h
  · split at h
    · rename_i xs e
      split at h
      · rename_i z e2
        cases h
        exact ⟨rfl, fun st => by simp only [deS_nil e st, e2]⟩
      · cases h
    · cases h
  · cases h
theorem o_catT : O2 catM := fun v w x s1 h => by
  have key : ∀ st, (∀ ys, deL [] v = some ys → deL st v = some ys) ∧ (∀ ys, deL [] w = some ys → deL st w = some ys) := fun st => ⟨fun ys e => deL_nil e st, fun ys e => deL_nil e st⟩
  unfold catM at h ⊢
  split at h
  · cases h; exact ⟨rfl, fun _ => rfl⟩
  · split at h
    · rename_i xs ys e1 e2
      split at h
      · rename_i hz
        cases h
        exact ⟨rfl, fun st => by simp only [e1, e2, if_pos hz]⟩
      · cases h
    · rename_i hne
      split at h
      · rename_i xs ys e1 e2
        split at h
        · rename_i hz
          cases h
          refine ⟨rfl, fun st => ?_⟩
          have f1 := deL_nil e1 st
          have f2 := deL_nil e2 st
          simp only [f1, f2, if_pos hz]
        · cases h
      · cases h
theorem o_catSM : O2 catSM := fun v w x s1 h => by
  unfold catSM at h ⊢
  split at h
  · split at h
    · rename_i hz; cases h; exact ⟨rfl, fun st => by simp only [if_pos hz]⟩
    · cases h
  · cases h
theorem o_upM : O1 upM := fun v x s1 h => by
  unfold upM at h ⊢
  split at h
  · split at h
    · rename_i hz; cases h; exact ⟨rfl, fun st => by simp only [if_pos hz]⟩
    · cases h
  · cases h
theorem o_negM : O1 negM := fun v x s1 h => by
  unfold negM at h ⊢
  split at h
  · cases h; exact ⟨rfl, fun st => rfl⟩
  · cases h
theorem o_gtM : O2 gtM := fun v w x s1 h => by
  unfold gtM iI at h ⊢
  split at h
  · cases h; exact ⟨rfl, fun st => rfl⟩
  · cases h
theorem pdS_nil {v : AV} {d : PyData} (h : pdS [] v = some d) (st : Sto) : pdS st v = some d := by
  cases v with
  | ptr n => simp [pdS, top, pd] at h
  | _ => exact h
theorem o_eq2M : O2 eq2M := fun v w x s1 h => by
  unfold eq2M at h ⊢
  split at h
  · cases h; exact ⟨rfl, fun st => rfl⟩
  · unfold eqM at h ⊢
    split at h
    · rename_i e1 e2
      cases h
      exact ⟨rfl, fun st => by simp only [pdS_nil e1 st, pdS_nil e2 st]⟩
    · cases h
theorem o_ne2M : O2 ne2M := fun v w x s1 h => by
  unfold ne2M at h ⊢
  split at h
  · cases h; exact ⟨rfl, fun st => rfl⟩
  · unfold neM at h ⊢
    split at h
    · rename_i e1 e2
      cases h
      exact ⟨rfl, fun st => by simp only [pdS_nil e1 st, pdS_nil e2 st]⟩
    · cases h
theorem o_ne3M {fs : Eqs} (hfs : ∀ q ∈ fs, ∃ z, q.2 = pureM z) : O2 (ne3M fs) := fun v w x s1 h => by
  unfold ne3M at h ⊢
  split at h
  · rename_i y
    cases v with
    | ins C gs =>
      unfold neTxt at h ⊢
      simp only at h ⊢
      cases e : eqAt fs C with
      | none => simp only [e] at h; cases h
      | some pf =>
        simp only [e] at h ⊢
        obtain ⟨q, hq, rfl, rfl⟩ := eqAt_mem e
        obtain ⟨z, hz⟩ := hfs q hq
        rw [hz] at h ⊢
        cases ez : pureM z [.ins q.1 gs, .str y] [] with
        | ok r s2 =>
          have es : s2 = [] := by
            unfold pureM at ez
            split at ez
            · split at ez <;> cases ez; rfl
            · cases ez
          subst es
          rw [ez] at h
          have hst := fun st => pureM_st ez st
          cases r <;> simp only [R.nox_ok, R.bind_ok] at h <;> first | (cases h; done) | skip
          cases h
          exact ⟨rfl, fun st => by rw [hst st]; simp only [R.nox_ok, R.bind_ok]⟩
        | exc x s2 => rw [ez] at h; simp [R.nox] at h
        | stuck => rw [ez] at h; simp [R.nox] at h
    | _ => unfold neTxt at h ⊢; simp only at h ⊢; cases h <;> exact ⟨rfl, fun _ => rfl⟩
  · exact o_ne2M v _ x s1 h
theorem o_listM : OL listM := fun vs x s1 h => by
  unfold listM at h ⊢
  split at h
  · rename_i v
    split at h
    · rename_i xs e
      cases h
      refine ⟨rfl, fun st => ?_⟩
      have : srcOf st v = some xs := by
        cases v with
        | ptr n => simp [srcOf, deS, deT, deL, deD] at e
        | _ => exact e
      simp only [this]
    · cases h
  · cases h
theorem o_isiA {cs : List String} : OL (isiA cs) := fun vs x s1 h => by
  unfold isiA at h ⊢
  split at h
  · rename_i v c
    split at h
    · rename_i t e
      split at h
      · rename_i b eb
        cases h
        refine ⟨rfl, fun st => ?_⟩
        have : tyN st v = some t := by
          cases v with
          | ptr n => simp [tyN, tyName] at e
          | _ => exact e
        simp only [this, eb]
      · cases h
    · cases h
  · cases h
theorem o_cutM {lo hi : Option Int} (v x : AV) (s1 : Sto) (h : cutM v lo hi [] = .ok x s1) : s1 = [] ∧ ∀ st, cutM v lo hi st = .ok x st := by
  unfold cutM at h ⊢
  split at h
  · rename_i xs e
    cases h
    exact ⟨rfl, fun st => rfl⟩
  · rename_i e
    split at h
    · rename_i xs e2
      cases h
      exact ⟨rfl, fun st => by simp only [deL_nil e2 st]⟩
    · cases h
theorem gg_part {m : Option (Fr → M AV)} (hm : ∀ n, m = some n → GG fr n) : GG fr (mPart m) := by
  cases m with
  | none => exact gg_ok
  | some n => exact gg_bind (k := fun v _ st1 => match v with
    | .int i => R.ok (some i) st1
    | _ => .stuck) (hm n rfl) fun v => by cases v <;> first | exact gg_ok | exact gg_stuck
theorem gg_slice {m : Fr → M AV} {lo hi : Option (Fr → M AV)} (hm : GG fr m) (hl : ∀ n, lo = some n → GG fr n) (hh : ∀ n, hi = some n → GG fr n) : GG fr (mSlice m lo hi) :=
  gg_bind (k := fun v fr st1 => (mPart lo fr st1).bind fun l st2 => (mPart hi fr st2).bind fun u st3 => cutM v l u st3) hm fun v => gg_bind (k := fun l fr st2 => (mPart hi fr st2).bind fun u st3 => cutM v l u st3) (gg_part hl) fun l => gg_bind (k := fun u _ st3 => cutM v l u st3) (gg_part hh) fun u x s1 h => o_cutM (lo := l) (hi := u) v x s1 h
end MM
set_option Elab.async false
set_option linter.all false
set_option maxRecDepth 100000
set_option maxHeartbeats 0
/-! Plain: parts of the mirrors of k72. -/
namespace MM
open PySem PySem.Spec PyProof.Rows L2
def lb_e1 : Fr → M AV := (mL lstM (mCons (mL lstM (mCons (mL listM (mCons (mVar 1) mNil)) (mCons (mVar 2) mNil))) (mCons (mL lstM (mCons (mSlice (mVar 1) (some (mC (.int 1))) none) (mCons (mVar 2) mNil))) (mCons (mL lstM (mCons (m2 catM (mVar 1) (mL tupM (mCons (mC (.int 0)) mNil))) (mCons (mVar 2) mNil))) (mCons (mL lstM (mCons (mSlice (mVar 1) none (some (m1 negM (mC (.int 1))))) (mCons (mVar 2) mNil))) mNil)))))
def lb_e2 : Fr → M AV := (m2 catM (mVar 4) (mL lstM (mCons (mL lstM (mCons (m2 catM (mL tupM (mCons (m2 catSM (m2 ixM (mVar 1) (mC (.int 0))) (mC (.str (Str.ofString "s")))) mNil)) (mSlice (mVar 1) (some (mC (.int 1))) none)) (mCons (mVar 2) mNil))) (mCons (mL lstM (mCons (m2 catM (mL tupM (mCons (mL tupM (mCons (m2 ixM (mVar 1) (mC (.int 0))) mNil)) mNil)) (mSlice (mVar 1) (some (mC (.int 1))) none)) (mCons (mVar 2) mNil))) mNil))))
def lb_e3 : Fr → M AV := (mL lstM (mCons (mL lstM (mCons (m2 catM (mL tupM (mCons (m1 upM (m2 ixM (mVar 1) (mC (.int 0)))) mNil)) (mSlice (mVar 1) (some (mC (.int 1))) none)) (mCons (mVar 2) mNil))) (mCons (mL lstM (mCons (mL tupM (mCons (mVar 1) mNil)) (mCons (mVar 2) mNil))) (mCons (mL lstM (mCons (m2 ixM (mVar 1) (mC (.int 0))) (mCons (mVar 2) mNil))) mNil))))
def lb_pick : Fr → M AV := (m2 ixM (mVar 3) (mCallF 2 p_law_pick [] (mCons (mVar 0) (mCons (mL lenM (mCons (mVar 3) mNil)) mNil))))
def lb_cond : Fr → M Bool := (bOr (bAnd (mB (m2 eq2M (mVar 5) (mC (.int 0)))) (mB (m2 (ne3M eqsL) (mVar 6) (m2 ixM (mVar 1) (mC (.int 0)))))) (bAnd (mB (m2 gtM (mVar 5) (mC (.int 0)))) (bNot (mB (mCallF 2 p_law_is_fit [] (mCons (mVar 5) (mCons (mVar 6) mNil)))))))
def lb_pair : Fr → M AV := (mL lstM (mCons (m2 catM (m2 catM (mSlice (mVar 1) none (some (mVar 5))) (mL tupM (mCons (mVar 6) mNil))) (mSlice (mVar 1) (some (m2 catM (mVar 5) (mC (.int 1)))) none)) (mCons (mVar 2) mNil)))
def lb_last : Fr → M Bool := (bNot (mB (mL (isiA csL) (mCons (mVar 6) (mCons (mC (.ty "tuple")) mNil)))))
def lb_pair2 : Fr → M AV := (mL lstM (mCons (mVar 1) (mCons (mVar 6) mNil)))
def lb_body : Fr → Sto → RS := sSeq (sAsg (.nm 6) lb_pick) (sIf lb_cond (sExp (mAppend (mVar 4) lb_pair)) sNext)
theorem b_law_bad_eq : b_law_bad = sSeq (sAsg (.nm 4) lb_e1) (sSeq (sAsg (.nm 4) lb_e2) (sSeq (sAsg (.nm 4) (m2 catN (mVar 4) lb_e3)) (sSeq (sFor (.nm 5) (mRng mRange1 (mCons (mL lenM (mCons (mVar 1) mNil)) mNil)) lb_body) (sSeq (sAsg (.nm 6) lb_pick) (sSeq (sIf lb_last (sExp (mAppend (mVar 4) lb_pair2)) sNext) (sRet (mVar 4))))))) := rfl
def lw_more : Fr → Sto → RS := (sAsg (.nm 5) (m2 catN (mVar 5) (mCallF 4 p_law_bad [] (mCons (mVar 4) (mCons (mVar 6) (mCons (mVar 7) (mCons (mVar 2) mNil)))))))
def lw_one : Fr → Sto → RS := sSeq (sFor (.nm 8) (mRng mRange1 (mCons (mC (.int 4)) mNil)) lw_more) (sExp (mAppend (mVar 5) (mL lstM (mCons (mVar 7) (mCons (mVar 6) mNil)))))
def lw_purse : Fr → Sto → RS := (sAsg (.nm 4) (mCallF 1 p_law_purse [] (mCons (mCallF 2 p_law_cell [] (mCons (mVar 0) (mCons (mVar 3) mNil))) mNil)))
def lw_things : Fr → Sto → RS := (sAsg (.nm 5) (mComp [10] (.nm 10) (mIter (mVar 2)) mYes (mL lstM (mCons (mVar 10) (mCons (m2 ixM (mVar 2) (mCallF 2 p_law_pick [] (mCons (mVar 4) (mCons (mL lenM (mCons (mVar 2) mNil)) mNil)))) mNil)))))
def lw_claims : Fr → Sto → RS := sFor (.tp [6, 7]) (mIter (mVar 1)) lw_one
def lw_text : Fr → Sto → RS := (sAsg (.nm 9) (mL (reprA repsL 8 30) (mCons (mL lstM (mCons (mVar 1) (mCons (mVar 5) mNil))) mNil)))
def lw_good : Fr → Sto → RS := (sIf (bNot (mB (mL allM (mCons (mComp [11, 12] (.tp [11, 12]) (mIter (mVar 1)) mYes (m2 isBM (mCallF 2 p_holds [] (mCons (mVar 11) (mCons (mVar 12) mNil))) (mC (.bl true)))) mNil)))) (sRet (mC (.bl false))) sNext)
def lw_bad : Fr → Sto → RS := (sIf (bNot (mB (mL allM (mCons (mComp [11, 12] (.tp [11, 12]) (mIter (mVar 5)) mYes (m2 isBM (mCallF 2 p_holds [] (mCons (mVar 11) (mCons (mVar 12) mNil))) (mC (.bl false)))) mNil)))) (sRet (mC (.bl false))) sNext)
def lw_again : Fr → Sto → RS := (sIf (bOr (bNot (mB (mL allM (mCons (mComp [11, 12] (.tp [11, 12]) (mIter (mVar 1)) mYes (m2 isBM (mCallF 2 p_holds [] (mSw (mCons (mVar 12) (mCons (mVar 11) mNil)))) (mC (.bl true)))) mNil)))) (mB (m2 ne2M (mL (reprA repsL 8 30) (mCons (mL lstM (mCons (mVar 1) (mCons (mVar 5) mNil))) mNil)) (mVar 9)))) (sRet (mC (.bl false))) sNext)
def lw_tail : Fr → Sto → RS := sSeq lw_text (sSeq lw_good (sSeq lw_bad lw_again))
def lw_body : Fr → Sto → RS := sSeq lw_purse (sSeq lw_things (sSeq lw_claims lw_tail))
def lw_set : Fr → Sto → RS := (sAsgG (gSet (.tp [1, 2])) (mL tupM (mCons (mCallF 0 p_law_good [] mNil) (mCons (mCallF 0 p_law_things [] mNil) mNil))))
theorem b_law_eq : b_law = sSeq lw_set (sSeq (sFor (.nm 3) (mRng mRange1 (mCons (mL max2M (mCons (mC (.int 2)) (mCons (mL min2M (mCons (mL lenM (mCons (mVar 0) mNil)) (mCons (mC (.int 3)) mNil))) mNil))) mNil)) lw_body) (sRet (mC (.bl true)))) := rfl
def goodL : List AV := [.lst [.tup [.str (Str.ofString "yes"), .int (2), .tup [.tup [.int (1), .int (2)], .tup [.int (-1), .int (2)]]], .tup [.int (-1), .int (2)]],
  .lst [.tup [.str (Str.ofString "no"), .int (1), .tup [.tup [.int (1)], .tup [.int (-1)]]], .tup [.tup [.str (Str.ofString "add"), .tup []]]],
  .lst [.tup [.str (Str.ofString "yes"), .int (0), .tup []], .tup []],
  .lst [.tup [.str (Str.ofString "small"), .int (2), .tup [.tup [.int (1), .int (2)], .tup [.int (-1), .int (2)]], .tup [], .tup [.tup [.int (2), .tup [.int (2)]]]], .tup [.tup [.str (Str.ofString "add"), .tup [.int (2)]], .tup [.str (Str.ofString "keep"), .tup [.int (2)]], .tup [.str (Str.ofString "drop"), .tup [.int (1), .int (2)]], .tup [.str (Str.ofString "drop"), .tup [.int (-1), .int (2)]], .tup [.str (Str.ofString "leave"), .tup [.int (2)], .int (2)]]],
  .lst [.tup [.str (Str.ofString "never"), .int (2), .tup [.tup [.int (1), .int (2)], .tup [.int (-1), .int (2)]], .tup [.int (-2)]], .tup [.tup [.str (Str.ofString "add"), .tup [.int (2)]]]],
  .lst [.tup [.str (Str.ofString "alike"), .int (2), .tup [.tup [.int (1), .int (2)], .tup [.int (-1), .int (2)]], .tup [.tup [.int (2)]]], .tup [.tup [.tup [.str (Str.ofString "add"), .tup [.int (2)]]], .tup [.tup [.str (Str.ofString "add"), .tup [.int (1), .int (2)]], .tup [.str (Str.ofString "add"), .tup [.int (-1), .int (2)]]]]],
  .lst [.tup [.str (Str.ofString "core"), .int (1), .tup [.tup [.int (1)], .tup [.int (-1)]], .tup [.int (0), .int (1)]], .tup [.tup [.tup [.str (Str.ofString "add"), .tup []]], .tup [.tup [.int (-1)], .tup [.int (1)]]]]]
def thingsL : List AV := [.non,
  .int (7),
  .bl true,
  .bl false,
  .int (-3),
  .int (1000000000000000000000000000000),
  .str (Str.ofString ""),
  .str (Str.ofString "yes"),
  .str (Str.ofString "add"),
  .tup [],
  .lst [],
  .dt [],
  .tup [.int (1)],
  .lst [.int (1)],
  .dk [((.inr (Str.ofString "a")), .int (1))],
  .tup [.tup []],
  .tup [.lst []],
  .tup [.dt []],
  .ins "Book" [("letters", .int (2)), ("clauses", .tup [.tup [.int (1)]])],
  .ins "Work" [("most", .int (4000)), ("ground", .ins "Ground" [("book", .ins "Book" [("letters", .int (1)), ("clauses", .tup [])]), ("held", .dt []), ("found", .dt []), ("tail", .lst [])]), ("log", .tup []), ("book", .ins "Book" [("letters", .int (1)), ("clauses", .tup [])]), ("held", .tup []), ("found", .tup []), ("tail", .tup [])],
  .ins "Standing" [("book", .ins "Book" [("letters", .int (1)), ("clauses", .tup [])]), ("held", .tup []), ("found", .tup []), ("tail", .tup [])],
  .tup [.non, .non],
  .tup [.tup [.str (Str.ofString "add"), .tup []]],
  .tup [.tup [.tup [.tup [.tup [.int (1)], .lst [.tup [.int (1)]], .str (Str.ofString "x")], .lst [.tup [.tup [.int (1)], .lst [.tup [.int (1)]], .str (Str.ofString "x")]], .str (Str.ofString "x")], .lst [.tup [.tup [.tup [.int (1)], .lst [.tup [.int (1)]], .str (Str.ofString "x")], .lst [.tup [.tup [.int (1)], .lst [.tup [.int (1)]], .str (Str.ofString "x")]], .str (Str.ofString "x")]], .str (Str.ofString "x")], .lst [.tup [.tup [.tup [.tup [.int (1)], .lst [.tup [.int (1)]], .str (Str.ofString "x")], .lst [.tup [.tup [.int (1)], .lst [.tup [.int (1)]], .str (Str.ofString "x")]], .str (Str.ofString "x")], .lst [.tup [.tup [.tup [.int (1)], .lst [.tup [.int (1)]], .str (Str.ofString "x")], .lst [.tup [.tup [.int (1)], .lst [.tup [.int (1)]], .str (Str.ofString "x")]], .str (Str.ofString "x")]], .str (Str.ofString "x")]], .str (Str.ofString "x")],
  .tup [.str (Str.ofString "add"), .tup [.int (1)]],
  .tup [.int (1), .int (-1)],
  .tup [.tup [.int (1), .int (2)], .tup [.int (2), .int (1)]],
  .lst [.tup [.str (Str.ofString "add"), .tup []]],
  .str (Str.ofString "no"),
  .tup [.tup [.bl true]],
  .int (40),
  .int (41)]
end MM
set_option Elab.async false
set_option linter.all false
set_option maxRecDepth 100000
set_option maxHeartbeats 0
/-! Plain: what _law_bad tells. -/
namespace MM
open PySem PySem.Spec PyProof.Rows L2
/-! ### the checks -/
def isV (v : Bool) : R AV → Bool
  | .ok (.bl b) [] => b == v
  | _ => false
theorem isV_ok {v : Bool} {r : R AV} (h : isV v r = true) : r = .ok (.bl v) [] := by
  unfold isV at h
  split at h
  · rw [beq_iff_eq] at h; rw [h]
  · cases h
def isPair (v : Bool) : AV → Bool
  | .lst l => (match l with
    | [c, s] => isV v (p_holds [c, s] [])
    | _ => false)
  | _ => false
def IsP (v : Bool) (q : AV) : Prop := ∃ c s, q = .lst [c, s] ∧ p_holds [c, s] [] = .ok (.bl v) []
theorem isPair_ok {v : Bool} {q : AV} (h : isPair v q = true) : IsP v q := by
  unfold isPair at h
  split at h
  · split at h
    · exact ⟨_, _, rfl, isV_ok h⟩
    · cases h
  · cases h
def sized (q : AV) : Bool := (match szA repsL q with | some n => decide (n ≤ 4000) | none => false) && (decide (dpA 8 q ≤ 25) && pfree q)
structure Sized (q : AV) : Prop where
  sz : ∃ n, szA repsL q = some n ∧ n ≤ 4000
  dp : dpA 8 q ≤ 25
  pf : pfree q = true
theorem sized_ok {q : AV} (h : sized q = true) : Sized q := by
  unfold sized at h
  simp only [Bool.and_eq_true, decide_eq_true_eq] at h
  obtain ⟨h1, h2, h3⟩ := h
  split at h1
  · rename_i n e
    exact ⟨⟨n, e, of_decide_eq_true h1⟩, h2, h3⟩
  · cases h1
def okQ (v : Bool) (q : AV) : Bool := isPair v q && sized q
structure OkQ (v : Bool) (q : AV) : Prop where
  p : IsP v q
  s : Sized q
theorem okQ_ok {v : Bool} {q : AV} (h : okQ v q = true) : OkQ v q := by
  unfold okQ at h
  obtain ⟨h1, h2⟩ := Bool.and_eq_true_iff.mp h
  exact ⟨isPair_ok h1, sized_ok h2⟩
def ev (m : Fr → M AV) (fr : Fr) : Option AV := match m fr [] with | .ok v [] => some v | _ => none
theorem ev_ok {m : Fr → M AV} {fr : Fr} {v : AV} (h : ev m fr = some v) : m fr [] = .ok v [] := by
  unfold ev at h
  split at h
  · cases h; assumption
  · cases h
def evB (m : Fr → M Bool) (fr : Fr) : Option Bool := match m fr [] with | .ok v [] => some v | _ => none
theorem evB_ok {m : Fr → M Bool} {fr : Fr} {v : Bool} (h : evB m fr = some v) : m fr [] = .ok v [] := by
  unfold evB at h
  split at h
  · cases h; assumption
  · cases h
abbrev Fq (c s : AV) (f k t : Option AV) : Fr := [none, some c, some s, none, f, k, t]
abbrev F7 (p c s th : AV) (f k t : Option AV) : Fr := [some p, some c, some s, some th, f, k, t]
def lstOf : Option AV → Option (List AV)
  | some (.lst xs) => some xs
  | _ => none
theorem lstOf_ok {o : Option AV} {xs : List AV} (h : lstOf o = some xs) : o = some (.lst xs) := by
  unfold lstOf at h
  split at h
  · cases h; rfl
  · cases h
def lenT : AV → Option Nat
  | .tup xs => some xs.length
  | _ => none
def chk1 (c s : AV) : Bool := match lstOf (ev lb_e1 (Fq c s none none none)) with
  | some f1 => (match lstOf (ev lb_e2 (Fq c s (some (.lst f1)) none none)) with
    | some f2 => (match lstOf (ev lb_e3 (Fq c s (some (.lst f2)) none none)) with
      | some f3 => (f2 ++ f3).all (okQ false) && decide ((f2 ++ f3).length ≤ 9)
      | none => false)
    | none => false)
  | none => false
def chk2 (c s : AV) (k : Int) (t : AV) : Bool := match evB lb_cond (Fq c s none (some (.int k)) (some t)) with
  | some true => (match ev lb_pair (Fq c s none (some (.int k)) (some t)) with
    | some q => okQ false q
    | none => false)
  | some false => true
  | none => false
def chk3 (c s t : AV) : Bool := match evB lb_last (Fq c s none none (some t)) with
  | some true => (match ev lb_pair2 (Fq c s none none (some t)) with
    | some q => okQ false q
    | none => false)
  | some false => true
  | none => false
def ksF (lo : Int) : Nat → List Int
  | 0 => []
  | n + 1 => lo :: ksF (lo + 1) n
theorem rngA_ks : ∀ (n : Nat) (lo : Int), rngA lo n = (ksF lo n).map AV.int
  | 0, _ => rfl
  | n + 1, lo => by rw [rngA, ksF, List.map_cons, rngA_ks n]
theorem ksF_len : ∀ (n : Nat) (lo : Int), (ksF lo n).length = n
  | 0, _ => rfl
  | n + 1, lo => by rw [ksF, List.length_cons, ksF_len n]
abbrev ksOf (n : Nat) : List Int := ksF 0 n
def chkAll (ts : List AV) (c s : AV) : Bool := chk1 c s && ((match lenT c with
  | some n => decide (n ≤ 5) && (ksOf n).all fun k => ts.all fun t => chk2 c s k t
  | none => false) && ts.all fun t => chk3 c s t)
/-! ### the store -/
abbrev PurseAt (st : Sto) (n : Nat) : Prop := ∃ a b c : Int, st[n]? = some (.lst [.int a, .int b, .int c])
/-- what stays: all ahead but the purse at n -/
structure Kp (n m : Nat) (st st' : Sto) : Prop where
  len : m ≤ st'.length
  old : ∀ i, i < m → i ≠ n → st'[i]? = st[i]?
structure Jb (n m B : Nat) (st0 st : Sto) : Prop where
  pu : PurseAt st n
  nm : n < m
  kp : Kp n m st0 st
  xs : ∃ xs, st[m]? = some (.lst xs) ∧ (∀ q ∈ xs, OkQ false q) ∧ xs.length ≤ B
theorem pick_j {n m B : Nat} {st0 st : Sto} (j : Jb n m B st0 st) {k : Int} (h0 : 0 < k) (h1 : k < 1073741824) : ∃ t st', 0 ≤ t ∧ t < k ∧ p_law_pick [.ptr n, .int k] st = .ok (.int t) st' ∧ Jb n m B st0 st' := by
  obtain ⟨a, b, c, e⟩ := j.pu
  have hn : n < st.length := (List.getElem?_eq_some_iff.mp e).1
  obtain ⟨t, a', b', c', l1, l2, e'⟩ := pick_ok e h0 h1
  refine ⟨t, _, l1, l2, e', ⟨⟨a', b', c', by rw [List.getElem?_set_self hn]⟩, j.nm, ⟨by rw [List.length_set]; exact j.kp.len, fun i hi ne => by rw [List.getElem?_set_ne (Ne.symm ne)]; exact j.kp.old i hi ne⟩, ?_⟩⟩
  obtain ⟨xs, e1, e2⟩ := j.xs
  have nm := j.nm
  exact ⟨xs, by rw [List.getElem?_set_ne (by omega)]; exact e1, e2⟩
theorem app_j {n m B : Nat} {st0 st : Sto} (j : Jb n m B st0 st) (hB : B < 1000) {q : AV} (hq : OkQ false q) : ∃ st', appM (.ptr m) q st = .ok .non st' ∧ isLP st (.ptr m) = true ∧ Jb n m (B + 1) st0 st' := by
  obtain ⟨xs, e1, e2, e3⟩ := j.xs
  have hm : m < st.length := (List.getElem?_eq_some_iff.mp e1).1
  have nm := j.nm
  refine ⟨st.set m (.lst (xs ++ [q])), by simp only [appM, e1]; rw [if_pos (by omega)], by simp only [isLP, e1], ⟨?_, nm, ⟨by rw [List.length_set]; exact j.kp.len, fun i hi ne => by rw [List.getElem?_set_ne (by omega)]; exact j.kp.old i hi ne⟩, xs ++ [q], by rw [List.getElem?_set_self hm], fun x hx => ?_, by rw [List.length_append]; simp; omega⟩⟩
  · obtain ⟨a, b, c, e⟩ := j.pu
    exact ⟨a, b, c, by rw [List.getElem?_set_ne (by omega)]; exact e⟩
  · rcases List.mem_append.mp hx with h | h
    · exact e2 x h
    · rw [List.mem_singleton.mp h]; exact hq
theorem Jb.more {n m B B' : Nat} {st0 st : Sto} (j : Jb n m B st0 st) (h : B ≤ B') : Jb n m B' st0 st := ⟨j.pu, j.nm, j.kp, let ⟨xs, e1, e2, e3⟩ := j.xs; ⟨xs, e1, e2, Nat.le_trans e3 h⟩⟩
/-! ### the steps -/
section
variable {ts : List AV} {c s : AV} {n m B : Nat} {st0 st : Sto} {f k t : Option AV}
theorem lb_pick_ok (hts : 0 < ts.length ∧ ts.length < 1000) (j : Jb n m B st0 st) : ∃ t' st', t' ∈ ts ∧ lb_pick (F7 (.ptr n) c s (.lst ts) f k t) st = .ok t' st' ∧ Jb n m B st0 st' := by
  obtain ⟨i, st', l1, l2, e, j'⟩ := pick_j j (k := (ts.length : Int)) (by omega) (by omega)
  have hi : i.toNat < ts.length := by omega
  refine ⟨ts[i.toNat], st', List.getElem_mem hi, ?_, j'⟩
  have ec : mCallF 2 p_law_pick [] (mCons (mVar 0) (mCons (mL lenM (mCons (mVar 3) mNil)) mNil)) (F7 (.ptr n) c s (.lst ts) f k t) st = .ok (.int i) st' := by
    simp [mCallF, mCons, mNil, mVar, mL, lenM, deS, deT, deL, e]
  have ea : atI ts i = some ts[i.toNat] := by
    simp only [atI, ixN]
    rw [if_pos l1, if_pos l2]
    exact List.getElem?_eq_getElem hi
  unfold lb_pick
  simp only [m2, mVar, List.getElem?_cons_succ, List.getElem?_cons_zero, R.bind_ok]
  rw [ec]
  simp only [R.bind_ok, ixM, deS, deT, deL, ea]
theorem nofs : ∀ q ∈ eqsL, ∃ z, q.2 = pureM z := fun q hq => by
  simp only [eqsL, List.mem_cons, List.not_mem_nil, or_false] at hq
  rcases hq with rfl | rfl | rfl
  · exact ⟨_, rfl⟩
  · exact ⟨_, rfl⟩
  · exact ⟨_, rfl⟩
theorem gg_e1 {fr : Fr} : GG fr lb_e1 := gg_mL o_lstM (gg_cons (gg_mL o_lstM (gg_cons (gg_mL o_listM (gg_cons gg_var gg_nil)) (gg_cons gg_var gg_nil))) (gg_cons (gg_mL o_lstM (gg_cons (gg_slice gg_var (fun n h => by cases h; exact gg_c) (fun n h => by cases h)) (gg_cons gg_var gg_nil))) (gg_cons (gg_mL o_lstM (gg_cons (gg_m2 o_catT gg_var (gg_mL o_tupM (gg_cons gg_c gg_nil))) (gg_cons gg_var gg_nil))) (gg_cons (gg_mL o_lstM (gg_cons (gg_slice gg_var (fun n h => by cases h) (fun n h => by cases h; exact gg_m1 o_negM gg_c)) (gg_cons gg_var gg_nil))) gg_nil))))
theorem gg_tl {fr : Fr} : GG fr (mSlice (mVar 1) (some (mC (.int 1))) none) := gg_slice gg_var (fun n h => by cases h; exact gg_c) (fun n h => by cases h)
theorem gg_e2 {fr : Fr} : GG fr lb_e2 := gg_m2 o_catT gg_var (gg_mL o_lstM (gg_cons (gg_mL o_lstM (gg_cons (gg_m2 o_catT (gg_mL o_tupM (gg_cons (gg_m2 o_catSM (gg_m2 o_ixM gg_var gg_c) gg_c) gg_nil)) gg_tl) (gg_cons gg_var gg_nil))) (gg_cons (gg_mL o_lstM (gg_cons (gg_m2 o_catT (gg_mL o_tupM (gg_cons (gg_mL o_tupM (gg_cons (gg_m2 o_ixM gg_var gg_c) gg_nil)) gg_nil)) gg_tl) (gg_cons gg_var gg_nil))) gg_nil)))
theorem gg_e3 {fr : Fr} : GG fr lb_e3 := gg_mL o_lstM (gg_cons (gg_mL o_lstM (gg_cons (gg_m2 o_catT (gg_mL o_tupM (gg_cons (gg_m1 o_upM (gg_m2 o_ixM gg_var gg_c)) gg_nil)) gg_tl) (gg_cons gg_var gg_nil))) (gg_cons (gg_mL o_lstM (gg_cons (gg_mL o_tupM (gg_cons gg_var gg_nil)) (gg_cons gg_var gg_nil))) (gg_cons (gg_mL o_lstM (gg_cons (gg_m2 o_ixM gg_var gg_c) (gg_cons gg_var gg_nil))) gg_nil)))
theorem gg_cond {fr : Fr} : GG fr lb_cond := gg_or (gg_and (gg_mB (gg_m2 o_eq2M gg_var gg_c)) (gg_mB (gg_m2 (o_ne3M nofs) gg_var (gg_m2 o_ixM gg_var gg_c)))) (gg_and (gg_mB (gg_m2 o_gtM gg_var gg_c)) (gg_not (gg_mB (gg_callF (gg_cons gg_var (gg_cons gg_var gg_nil))))))
theorem gg_pair {fr : Fr} : GG fr lb_pair := gg_mL o_lstM (gg_cons (gg_m2 o_catT (gg_m2 o_catT (gg_slice gg_var (fun n h => by cases h) (fun n h => by cases h; exact gg_var)) (gg_mL o_tupM (gg_cons gg_var gg_nil))) (gg_slice gg_var (fun n h => by cases h; exact gg_m2 o_catT gg_var gg_c) (fun n h => by cases h))) (gg_cons gg_var gg_nil))
theorem gg_last {fr : Fr} : GG fr lb_last := gg_not (gg_mB (gg_mL o_isiA (gg_cons gg_var (gg_cons gg_c gg_nil))))
theorem gg_pair2 {fr : Fr} : GG fr lb_pair2 := gg_mL o_lstM (gg_cons gg_var (gg_cons gg_var gg_nil))
end
end MM
set_option Elab.async false
set_option linter.all false
set_option maxRecDepth 100000
set_option maxHeartbeats 0
/-! Kernel checks of k72. -/
namespace MM
open PySem PySem.Spec PyProof.Rows L2
def pairAt (f : AV → AV → Bool) : AV → Bool
  | .lst l => (match l with
    | [c, s] => f c s
    | _ => false)
  | _ => false
theorem g_okay : goodL.all (okQ true) = true := by decide +kernel
theorem g_turned : (goodL.all (pairAt fun c s => okQ false (.lst [s, c]))) = true := by decide +kernel
theorem t_pairs : (thingsL.all fun t => thingsL.all fun u => okQ false (.lst [t, u])) = true := by decide +kernel
theorem g_bad : (goodL.all (pairAt fun c s => chkAll thingsL c s)) = true := by decide +kernel
theorem l_good : p_law_good [] [] = .ok (.lst goodL) [] := by kernel_rfl
theorem l_things : p_law_things [] [] = .ok (.lst thingsL) [] := by kernel_rfl
end MM
set_option Elab.async false
set_option linter.all false
set_option maxRecDepth 100000
set_option maxHeartbeats 0
/-! Plain: _law_bad's loop. -/
namespace MM
open PySem PySem.Spec PyProof.Rows L2
section
variable {ts : List AV} {c s : AV} {n m B : Nat} {st0 st : Sto}
theorem append_ok {fr : Fr} {pe : Fr → M AV} {q : AV} (h4 : fr[4]? = some (some (.ptr m))) (j : Jb n m B st0 st) (hB : B < 1000) (e : pe fr st = .ok q st) (hq : OkQ false q) : ∃ st', sExp (mAppend (mVar 4) pe) fr st = .ok .next fr st' ∧ Jb n m (B + 1) st0 st' := by
  obtain ⟨st', e1, e2, j'⟩ := app_j j hB hq
  refine ⟨st', ?_, j'⟩
  simp only [sExp, mAppend, mVar, h4, R.bind_ok, e2, if_true, e, e1, RS.of_ok]
theorem step_ok {t : AV} {k : Int} (hc : chk2 c s k t = true) (j : Jb n m B st0 st) (hB : B < 1000) :
    ∃ st', sIf lb_cond (sExp (mAppend (mVar 4) lb_pair)) sNext (F7 (.ptr n) c s (.lst ts) (some (.ptr m)) (some (.int k)) (some t)) st = .ok .next (F7 (.ptr n) c s (.lst ts) (some (.ptr m)) (some (.int k)) (some t)) st' ∧ Jb n m (B + 1) st0 st' := by
  have f1 : lb_cond (F7 (.ptr n) c s (.lst ts) (some (.ptr m)) (some (.int k)) (some t)) [] = lb_cond (Fq c s none (some (.int k)) (some t)) [] := rfl
  have f2 : lb_pair (F7 (.ptr n) c s (.lst ts) (some (.ptr m)) (some (.int k)) (some t)) [] = lb_pair (Fq c s none (some (.int k)) (some t)) [] := rfl
  unfold chk2 at hc
  split at hc
  · rename_i e
    split at hc
    · rename_i q eq
      have e1 := (gg_cond _ _ (f1.trans (evB_ok e))).2 st
      have e2 := (gg_pair _ _ (f2.trans (ev_ok eq))).2 st
      obtain ⟨st', e3, j'⟩ := append_ok (fr := F7 (.ptr n) c s (.lst ts) (some (.ptr m)) (some (.int k)) (some t)) rfl j hB e2 (okQ_ok hc)
      exact ⟨st', by simp only [sIf, e1, RS.of_ok, if_true]; exact e3, j'⟩
    · cases hc
  · rename_i e
    have e1 := (gg_cond _ _ (f1.trans (evB_ok e))).2 st
    exact ⟨st, by simp only [sIf, e1, RS.of_ok]; rfl, j.more (Nat.le_succ _)⟩
  · cases hc
theorem last_ok {t : AV} {k : Option AV} (hc : chk3 c s t = true) (j : Jb n m B st0 st) (hB : B < 1000) :
    ∃ st', sIf lb_last (sExp (mAppend (mVar 4) lb_pair2)) sNext (F7 (.ptr n) c s (.lst ts) (some (.ptr m)) k (some t)) st = .ok .next (F7 (.ptr n) c s (.lst ts) (some (.ptr m)) k (some t)) st' ∧ Jb n m (B + 1) st0 st' := by
  have f1 : lb_last (F7 (.ptr n) c s (.lst ts) (some (.ptr m)) k (some t)) [] = lb_last (Fq c s none none (some t)) [] := rfl
  have f2 : lb_pair2 (F7 (.ptr n) c s (.lst ts) (some (.ptr m)) k (some t)) [] = lb_pair2 (Fq c s none none (some t)) [] := rfl
  unfold chk3 at hc
  split at hc
  · rename_i e
    split at hc
    · rename_i q eq
      have e1 := (gg_last _ _ (f1.trans (evB_ok e))).2 st
      have e2 := (gg_pair2 _ _ (f2.trans (ev_ok eq))).2 st
      obtain ⟨st', e3, j'⟩ := append_ok (fr := F7 (.ptr n) c s (.lst ts) (some (.ptr m)) k (some t)) rfl j hB e2 (okQ_ok hc)
      exact ⟨st', by simp only [sIf, e1, RS.of_ok, if_true]; exact e3, j'⟩
    · cases hc
  · rename_i e
    have e1 := (gg_last _ _ (f1.trans (evB_ok e))).2 st
    exact ⟨st, by simp only [sIf, e1, RS.of_ok]; rfl, j.more (Nat.le_succ _)⟩
  · cases hc
theorem pick_set {k t : Option AV} (hts : 0 < ts.length ∧ ts.length < 1000) (j : Jb n m B st0 st) : ∃ t' st', t' ∈ ts ∧ sAsg (.nm 6) lb_pick (F7 (.ptr n) c s (.lst ts) (some (.ptr m)) k t) st = .ok .next (F7 (.ptr n) c s (.lst ts) (some (.ptr m)) k (some t')) st' ∧ Jb n m B st0 st' := by
  obtain ⟨t', st', h1, h2, h3⟩ := lb_pick_ok (c := c) (s := s) (f := some (.ptr m)) (k := k) (t := t) hts j
  refine ⟨t', st', h1, ?_, h3⟩
  simp only [sAsg, h2, RS.of_ok, setTgt]
  rfl
theorem num_loop {I : Its} (hI : I.gd = none) (hts : 0 < ts.length ∧ ts.length < 1000) : ∀ (ks : List Int) (B : Nat) (st : Sto) (k t : Option AV), (∀ k ∈ ks, ∀ t ∈ ts, chk2 c s k t = true) → Jb n m B st0 st → B + ks.length ≤ 900 →
    ∃ st' k' t', forL I (.nm 5) lb_body (ks.map AV.int) (F7 (.ptr n) c s (.lst ts) (some (.ptr m)) k t) st = .ok .next (F7 (.ptr n) c s (.lst ts) (some (.ptr m)) k' t') st' ∧ Jb n m (B + ks.length) st0 st'
  | [], B, st, k, t, _, j, _ => ⟨st, k, t, by simp only [List.map_nil, forL]; rw [if_pos (show gdok I st by simp [gdok, gdokB, hI])], j⟩
  | i :: ks, B, st, k, t, hc, j, hB => by
    simp only [List.length_cons] at hB
    obtain ⟨t1, st1, ht1, e1, j1⟩ := pick_set (c := c) (s := s) (k := some (.int i)) (t := t) hts j
    obtain ⟨st2, e2, j2⟩ := step_ok (ts := ts) (hc i List.mem_cons_self t1 ht1) j1 (by omega)
    obtain ⟨st3, k3, t3, e3, j3⟩ := num_loop hI hts ks (B + 1) st2 (some (.int i)) (some t1) (fun x hx => hc x (List.mem_cons_of_mem _ hx)) j2 (by omega)
    refine ⟨st3, k3, t3, ?_, by rw [List.length_cons, show B + (ks.length + 1) = B + 1 + ks.length by omega]; exact j3⟩
    rw [List.map_cons]
    unfold forL
    have eb : lb_body (F7 (.ptr n) c s (.lst ts) (some (.ptr m)) (some (.int i)) t) st = .ok .next (F7 (.ptr n) c s (.lst ts) (some (.ptr m)) (some (.int i)) (some t1)) st2 := by
      unfold lb_body
      rw [sSeq_n e1]
      exact e2
    simp only [setTgt, List.set_cons_succ, List.set_cons_zero]
    rw [if_pos (show gdok I st by simp [gdok, gdokB, hI]), eb]
    exact e3
theorem catN_l {xs ys : List AV} {st : Sto} (h : xs.length + ys.length ≤ 16000000) : catN (.lst xs) (.lst ys) st = .ok (.ptr st.length) (st ++ [.lst (xs ++ ys)]) := by
  simp only [catN, deL, if_pos h]
theorem rng_nat {k : Nat} (h : k ≤ 1000) : mRange1 [.int (k : Int)] = some ⟨rngA 0 k, none⟩ := by
  have e : mRange1 [.int (k : Int)] = if -(2 ^ 62) ≤ (k : Int) ∧ (k : Int) < 2 ^ 62 then some ⟨rngA 0 (k : Int).toNat, none⟩ else none := rfl
  rw [e, if_pos (by omega), Int.toNat_natCast]
theorem len_tup {cs : List AV} {fr : Fr} {st : Sto} (h1 : fr[1]? = some (some (.tup cs))) : mCons (mL lenM (mCons (mVar 1) mNil)) mNil fr st = .ok [.int (cs.length : Int)] st := by
  simp only [mL, mCons, mNil, mVar, h1, R.bind_ok, lenM, deS, deT]
theorem em_ok {cs : List AV} (h : cs.length ≤ 1000) {fr : Fr} {st : Sto} (h1 : fr[1]? = some (some (.tup cs))) : mRng mRange1 (mCons (mL lenM (mCons (mVar 1) mNil)) mNil) fr st = .ok ⟨rngA 0 cs.length, none⟩ st := by
  unfold mRng
  rw [len_tup h1, R.bind_ok, rng_nat h]
theorem fe1 {p th : AV} : lb_e1 (F7 p c s th none none none) [] = lb_e1 (Fq c s none none none) [] := by
  simp only [lb_e1, mL, m1, m2, mCons, mNil, mVar, mC, mSlice, mPart, List.getElem?_cons_succ, List.getElem?_cons_zero]
theorem fe2 {p th f : AV} : lb_e2 (F7 p c s th (some f) none none) [] = lb_e2 (Fq c s (some f) none none) [] := by
  simp only [lb_e2, mL, m1, m2, mCons, mNil, mVar, mC, mSlice, mPart, List.getElem?_cons_succ, List.getElem?_cons_zero]
theorem fe3 {p th f : AV} : lb_e3 (F7 p c s th (some f) none none) [] = lb_e3 (Fq c s (some f) none none) [] := by
  simp only [lb_e3, mL, m1, m2, mCons, mNil, mVar, mC, mSlice, mPart, List.getElem?_cons_succ, List.getElem?_cons_zero]
theorem bad_ok (hts : 0 < ts.length ∧ ts.length < 1000) (hc : chkAll ts c s = true) {n : Nat} {st : Sto} (h : PurseAt st n) : ∃ st', p_law_bad [.ptr n, c, s, .lst ts] st = .ok (.ptr st.length) st' ∧ Jb n st.length 15 st st' := by
  unfold chkAll at hc
  obtain ⟨h1, hc⟩ := Bool.and_eq_true_iff.mp hc
  obtain ⟨h2, h3⟩ := Bool.and_eq_true_iff.mp hc
  have h3 := List.all_eq_true.mp h3
  obtain ⟨a0, b0, c0, hp⟩ := h
  have hn : n < st.length := (List.getElem?_eq_some_iff.mp hp).1
  cases c with
  | tup cs =>
    simp only [lenT, Bool.and_eq_true, decide_eq_true_eq] at h2
    obtain ⟨l5, h2⟩ := h2
    have h2 := fun k hk t ht => List.all_eq_true.mp (List.all_eq_true.mp h2 k hk) t ht
    unfold chk1 at h1
    split at h1
    · rename_i f1 e1
      split at h1
      · rename_i f2 e2
        split at h1
        · rename_i f3 e3
          obtain ⟨hf, hl⟩ := Bool.and_eq_true_iff.mp h1
          have hl := of_decide_eq_true hl
          have hf := List.all_eq_true.mp hf
          have g1 := (gg_e1 (fr := F7 (.ptr n) (.tup cs) s (.lst ts) none none none) _ _ (fe1.trans (ev_ok (lstOf_ok e1)))).2 st
          have g2 := (gg_e2 (fr := F7 (.ptr n) (.tup cs) s (.lst ts) (some (.lst f1)) none none) _ _ (fe2.trans (ev_ok (lstOf_ok e2)))).2 st
          have g3 := (gg_e3 (fr := F7 (.ptr n) (.tup cs) s (.lst ts) (some (.lst f2)) none none) _ _ (fe3.trans (ev_ok (lstOf_ok e3)))).2 st
          have j0 : Jb n st.length 9 st (st ++ [.lst (f2 ++ f3)]) := ⟨⟨a0, b0, c0, by rw [List.getElem?_append_left hn]; exact hp⟩, hn, ⟨by rw [List.length_append]; omega, fun i hi _ => List.getElem?_append_left hi⟩, f2 ++ f3, by rw [List.getElem?_append_right (Nat.le_refl _)]; simp, fun q hq => okQ_ok (hf q hq), hl⟩
          obtain ⟨st1, k1, t1, el, j1⟩ := num_loop (I := ⟨rngA 0 cs.length, none⟩) rfl hts (ksOf cs.length) 9 _ none none (fun k hk t ht => h2 k hk t ht) j0 (by rw [ksF_len]; omega)
          obtain ⟨t2, st2, ht2, ep, j2⟩ := pick_set (c := .tup cs) (s := s) (k := k1) (t := t1) hts j1
          obtain ⟨st3, e6, j3⟩ := last_ok (ts := ts) (k := k1) (h3 t2 ht2) j2 (by rw [ksF_len]; omega)
          refine ⟨st3, ?_, j3.more (by rw [ksF_len]; omega)⟩
          unfold p_law_bad runK
          have key : b_law_bad (startF N_law_bad.length [.ptr n, .tup cs, s, .lst ts]) st = .ok (.ret (.ptr st.length)) (F7 (.ptr n) (.tup cs) s (.lst ts) (some (.ptr st.length)) k1 (some t2)) st3 := by
            rw [show startF N_law_bad.length [.ptr n, .tup cs, s, .lst ts] = F7 (.ptr n) (.tup cs) s (.lst ts) none none none from rfl]
            rw [b_law_bad_eq]
            rw [sSeq_n (fr1 := F7 (.ptr n) (.tup cs) s (.lst ts) (some (.lst f1)) none none) (st1 := st) (by simp only [sAsg, g1, RS.of_ok, setTgt]; rfl)]
            rw [sSeq_n (fr1 := F7 (.ptr n) (.tup cs) s (.lst ts) (some (.lst f2)) none none) (st1 := st) (by simp only [sAsg, g2, RS.of_ok, setTgt]; rfl)]
            rw [sSeq_n (fr1 := F7 (.ptr n) (.tup cs) s (.lst ts) (some (.ptr st.length)) none none) (st1 := st ++ [.lst (f2 ++ f3)]) (by
              simp only [sAsg, m2, mVar, List.getElem?_cons_succ, List.getElem?_cons_zero, R.bind_ok, g3, catN_l (show f2.length + f3.length ≤ 16000000 by rw [List.length_append] at hl; omega), RS.of_ok, setTgt]; rfl)]
            rw [sSeq_n (fr1 := F7 (.ptr n) (.tup cs) s (.lst ts) (some (.ptr st.length)) k1 t1) (st1 := st1) (by
              have em : mRng mRange1 (mCons (mL lenM (mCons (mVar 1) mNil)) mNil) (F7 (.ptr n) (.tup cs) s (.lst ts) (some (.ptr st.length)) none none) (st ++ [.lst (f2 ++ f3)]) = .ok ⟨rngA 0 cs.length, none⟩ (st ++ [.lst (f2 ++ f3)]) := by
                exact em_ok (Nat.le_trans l5 (by decide)) rfl
              simp only [sFor, em, RS.of_ok]
              rw [← rngA_ks] at el
              exact el)]
            rw [sSeq_n ep, sSeq_n e6]
            rfl
          rw [key]
        · cases h1
      · cases h1
    · cases h1
  | _ => simp [lenT] at h2
end
end MM
set_option Elab.async false
set_option linter.all false
set_option maxRecDepth 100000
set_option maxHeartbeats 0
/-! Plain: k72's law answers True. -/
namespace MM
open PySem PySem.Spec PyProof.Rows L2
abbrev FL (s : AV) (gs ts : List AV) (k p : AV) (b : Option AV) (x6 x7 x8 x9 x10 x11 x12 : Option AV) : Fr := [some s, some (.lst gs), some (.lst ts), some k, some p, b, x6, x7, x8, x9, x10, x11, x12]
theorem comp_cons {I : Its} (hI : I.gd = none) {i : Nat} {me : Fr → M AV} {fr : Fr} {x v : AV} {xs : List AV} {vs : List AV} {st st1 st2 : Sto} (h : me (fr.set i (some x)) st = .ok v st1) (hr : compL I (.nm i) mYes me fr xs st1 = .ok vs st2) : compL I (.nm i) mYes me fr (x :: xs) st = .ok (v :: vs) st2 := by
  unfold compL
  rw [if_pos (show gdok I st by simp [gdok, gdokB, hI])]
  simp only [setTgt, mYes, R.nox_ok, R.bind_ok, if_true, h, hr]
theorem comp_nil {I : Its} (hI : I.gd = none) {t : Tgt} {mt : Fr → M Bool} {me : Fr → M AV} {fr : Fr} {st : Sto} : compL I t mt me fr [] st = .ok [] st := by
  simp [compL, gdok, gdokB, hI]
theorem pick_p {st : Sto} {n : Nat} {k : Int} (h : PurseAt st n) (h0 : 0 < k) (h1 : k < 1073741824) : ∃ t st', 0 ≤ t ∧ t < k ∧ p_law_pick [.ptr n, .int k] st = .ok (.int t) st' ∧ PurseAt st' n := by
  obtain ⟨a, b, c, e⟩ := h
  have hn : n < st.length := (List.getElem?_eq_some_iff.mp e).1
  obtain ⟨t, a', b', c', l1, l2, e'⟩ := pick_ok e h0 h1
  exact ⟨t, _, l1, l2, e', a', b', c', by rw [List.getElem?_set_self hn]⟩
section
variable {s k : AV} {gs ts : List AV} {n : Nat} {x6 x7 x8 x9 x10 x11 x12 b : Option AV}
/-! ### each thing with a drawn one -/
abbrev lw_pairE : Fr → M AV := mL lstM (mCons (mVar 10) (mCons (m2 ixM (mVar 2) (mCallF 2 p_law_pick [] (mCons (mVar 4) (mCons (mL lenM (mCons (mVar 2) mNil)) mNil)))) mNil))
theorem pairE_ok (hts : 0 < ts.length ∧ ts.length < 1000) {st : Sto} (h : PurseAt st n) (x : AV) : ∃ t st', t ∈ ts ∧ lw_pairE (FL s gs ts k (.ptr n) b x6 x7 x8 x9 (some x) x11 x12) st = .ok (.lst [x, t]) st' ∧ PurseAt st' n := by
  obtain ⟨i, st', l1, l2, e, h'⟩ := pick_p h (k := (ts.length : Int)) (by omega) (by omega)
  have hi : i.toNat < ts.length := by omega
  have ec : mCallF 2 p_law_pick [] (mCons (mVar 4) (mCons (mL lenM (mCons (mVar 2) mNil)) mNil)) (FL s gs ts k (.ptr n) b x6 x7 x8 x9 (some x) x11 x12) st = .ok (.int i) st' := by
    simp [mCallF, mCons, mNil, mVar, mL, lenM, deS, deT, deL, e]
  have ea : atI ts i = some ts[i.toNat] := by
    simp only [atI, ixN]
    rw [if_pos l1, if_pos l2]
    exact List.getElem?_eq_getElem hi
  refine ⟨ts[i.toNat], st', List.getElem_mem hi, ?_, h'⟩
  have e2 : m2 ixM (mVar 2) (mCallF 2 p_law_pick [] (mCons (mVar 4) (mCons (mL lenM (mCons (mVar 2) mNil)) mNil))) (FL s gs ts k (.ptr n) b x6 x7 x8 x9 (some x) x11 x12) st = .ok ts[i.toNat] st' := by
    simp only [m2, mVar, List.getElem?_cons_succ, List.getElem?_cons_zero, R.bind_ok]
    rw [ec]
    simp only [R.bind_ok, ixM, deS, deT, deL, ea]
  have e3 : mVar 10 (FL s gs ts k (.ptr n) b x6 x7 x8 x9 (some x) x11 x12) st = .ok x st := rfl
  simp only [lw_pairE, mL, mCons, mNil, e3, R.bind_ok, e2]
  rfl
theorem things_loop {I : Its} (hI : I.gd = none) (hts : 0 < ts.length ∧ ts.length < 1000) : ∀ (qs : List AV), (∀ t ∈ qs, ∀ u ∈ ts, OkQ false (.lst [t, u])) → ∀ (st : Sto), PurseAt st n →
    ∃ vs st', compL I (.nm 10) mYes lw_pairE (FL s gs ts k (.ptr n) b x6 x7 x8 x9 none x11 x12) qs st = .ok vs st' ∧ vs.length = qs.length ∧ (∀ q ∈ vs, OkQ false q) ∧ PurseAt st' n
  | [], _, st, h => ⟨[], st, comp_nil hI, rfl, (fun _ h => by cases h), h⟩
  | x :: qs, hq, st, h => by
    obtain ⟨t, st1, ht, e1, h1⟩ := pairE_ok (s := s) (k := k) (gs := gs) (x6 := x6) (x7 := x7) (x8 := x8) (x9 := x9) (x11 := x11) (x12 := x12) (b := b) hts h x
    obtain ⟨vs, st2, e2, l2, o2, h2⟩ := things_loop hI hts qs (fun t ht => hq t (List.mem_cons_of_mem _ ht)) st1 h1
    refine ⟨_ :: vs, st2, comp_cons hI e1 e2, by simp only [List.length_cons, l2], fun q hm => ?_, h2⟩
    rcases List.mem_cons.mp hm with hm | hm
    · rw [hm]; exact hq x List.mem_cons_self t ht
    · exact o2 q hm
/-- what the list of the bad ones is -/
structure LB (n : Nat) (st : Sto) (b : AV) (B : Nat) : Prop where
  pu : PurseAt st n
  ne : b ≠ .ptr n
  xs : ∃ xs, deL st b = some xs ∧ (∀ q ∈ xs, OkQ false q) ∧ xs.length ≤ B
theorem lw_things_ok (hts : 0 < ts.length ∧ ts.length < 1000) (hq : ∀ t ∈ ts, ∀ u ∈ ts, OkQ false (.lst [t, u])) {st : Sto} (h : PurseAt st n) :
    ∃ b' st', lw_things (FL s gs ts k (.ptr n) b x6 x7 x8 x9 x10 x11 x12) st = .ok .next (FL s gs ts k (.ptr n) (some b') x6 x7 x8 x9 x10 x11 x12) st' ∧ LB n st' b' ts.length := by
  obtain ⟨vs, st', e, l, o, h'⟩ := things_loop (I := ⟨ts, none⟩) rfl (s := s) (k := k) (gs := gs) (x6 := x6) (x7 := x7) (x8 := x8) (x9 := x9) (x11 := x11) (x12 := x12) (b := b) hts ts hq st h
  refine ⟨.lst vs, st', ?_, h', (fun z => by cases z), vs, rfl, o, Nat.le_of_eq l⟩
  have em : mComp [10] (.nm 10) (mIter (mVar 2)) mYes lw_pairE (FL s gs ts k (.ptr n) b x6 x7 x8 x9 x10 x11 x12) st = .ok (.lst vs) st' := by
    have e0 : mIter (mVar 2) (FL s gs ts k (.ptr n) b x6 x7 x8 x9 x10 x11 x12) st = .ok ⟨ts, none⟩ st := rfl
    simp only [mComp, e0, R.bind_ok]
    rw [if_pos (by omega)]
    show (compL ⟨ts, none⟩ _ _ _ (FL s gs ts k (.ptr n) b x6 x7 x8 x9 none x11 x12) ts st).bind _ = _
    rw [e]
    rfl
  simp only [lw_things, sAsg]
  rw [em]
  rfl
/-! ### the bad ones of each claim -/
theorem more_ok (hts : 0 < ts.length ∧ ts.length < 1000) {c w : AV} (hc : chkAll ts c w = true) {b : AV} {B : Nat} (hB : B ≤ 10000) {st : Sto} (j : LB n st b B) :
    ∃ m st', lw_more (FL s gs ts k (.ptr n) (some b) (some c) (some w) x8 x9 x10 x11 x12) st = .ok .next (FL s gs ts k (.ptr n) (some (.ptr m)) (some c) (some w) x8 x9 x10 x11 x12) st' ∧ LB n st' (.ptr m) (B + 15) := by
  obtain ⟨st1, e1, j1⟩ := bad_ok hts hc j.pu
  obtain ⟨xs, x1, x2, x3⟩ := j.xs
  obtain ⟨ys, y1, y2, y3⟩ := j1.xs
  have hn := j1.nm
  have d1 : deL st1 b = some xs := by
    cases b with
    | ptr m =>
      have ne : m ≠ n := fun e => j.ne (by rw [e])
      have hm : m < st.length := by
        simp only [deL] at x1
        split at x1
        · rename_i zs ez; exact (List.getElem?_eq_some_iff.mp ez).1
        · cases x1
      simp only [deL] at x1 ⊢
      rw [j1.kp.old m hm ne]
      exact x1
    | _ => exact x1
  have d2 : deL st1 (.ptr st.length) = some ys := by simp only [deL, y1]
  have ec : catN b (.ptr st.length) st1 = .ok (.ptr st1.length) (st1 ++ [.lst (xs ++ ys)]) := by
    simp only [catN, d1, d2]
    rw [if_pos (by omega)]
  have l1 := j1.kp.len
  obtain ⟨a0, b0, c0, ep⟩ := j1.pu
  have hn1 : n < st1.length := (List.getElem?_eq_some_iff.mp ep).1
  refine ⟨st1.length, st1 ++ [.lst (xs ++ ys)], ?_, ⟨a0, b0, c0, by rw [List.getElem?_append_left hn1]; exact ep⟩, (fun z => by cases z; omega), xs ++ ys, by simp only [deL]; rw [List.getElem?_append_right (Nat.le_refl _)]; simp, fun q hq => ?_, by rw [List.length_append]; omega⟩
  · have ecall : mCallF 4 p_law_bad [] (mCons (mVar 4) (mCons (mVar 6) (mCons (mVar 7) (mCons (mVar 2) mNil)))) (FL s gs ts k (.ptr n) (some b) (some c) (some w) x8 x9 x10 x11 x12) st = .ok (.ptr st.length) st1 := by
      simp only [mCallF, mCons, mNil, mVar, List.getElem?_cons_succ, List.getElem?_cons_zero, R.bind_ok, List.append_nil]
      rw [if_pos (by rfl)]
      exact e1
    simp only [lw_more, sAsg, m2]
    have e0 : mVar 5 (FL s gs ts k (.ptr n) (some b) (some c) (some w) x8 x9 x10 x11 x12) st = .ok b st := rfl
    rw [e0, R.bind_ok, ecall, R.bind_ok, ec]
    rfl
  · rcases List.mem_append.mp hq with h | h
    · exact x2 q h
    · exact y2 q h
theorem turns_loop {I : Its} (hI : I.gd = none) (hts : 0 < ts.length ∧ ts.length < 1000) {c w : AV} (hc : chkAll ts c w = true) : ∀ (us : List AV) (b : AV) (B : Nat) (x8 : Option AV) (st : Sto), B + 15 * us.length ≤ 10000 → LB n st b B →
    ∃ b' x8' st', forL I (.nm 8) lw_more us (FL s gs ts k (.ptr n) (some b) (some c) (some w) x8 x9 x10 x11 x12) st = .ok .next (FL s gs ts k (.ptr n) (some b') (some c) (some w) x8' x9 x10 x11 x12) st' ∧ LB n st' b' (B + 15 * us.length) ∧ ((∃ m, b = .ptr m) ∨ us ≠ [] → ∃ m, b' = .ptr m)
  | [], b, B, x8, st, _, j => ⟨b, x8, st, by simp only [forL]; rw [if_pos (show gdok I st by simp [gdok, gdokB, hI])], j, fun h => h.elim id fun z => absurd rfl z⟩
  | u :: us, b, B, x8, st, hB, j => by
    simp only [List.length_cons] at hB
    obtain ⟨m, st1, e1, j1⟩ := more_ok (s := s) (k := k) (gs := gs) (x8 := some u) (x9 := x9) (x10 := x10) (x11 := x11) (x12 := x12) hts hc (by omega) j
    obtain ⟨b', x8', st', e2, j2, h2⟩ := turns_loop hI hts hc us (.ptr m) (B + 15) (some u) st1 (by omega) j1
    refine ⟨b', x8', st', ?_, by rw [List.length_cons, show B + 15 * (us.length + 1) = B + 15 + 15 * us.length by omega]; exact j2, fun _ => h2 (.inl ⟨m, rfl⟩)⟩
    unfold forL
    simp only [setTgt, List.set_cons_succ, List.set_cons_zero]
    rw [if_pos (show gdok I st by simp [gdok, gdokB, hI]), e1]
    exact e2
theorem lb_app {b : AV} {m : Nat} (hb : b = .ptr m) {B : Nat} (hB : B ≤ 10000) {st : Sto} (j : LB n st b B) {q : AV} (hq : OkQ false q) : ∃ st', appM b q st = .ok .non st' ∧ isLP st b = true ∧ LB n st' b (B + 1) := by
  subst hb
  obtain ⟨xs, x1, x2, x3⟩ := j.xs
  have ne : m ≠ n := fun e => j.ne (by rw [e])
  have e : st[m]? = some (.lst xs) := by
    simp only [deL] at x1
    split at x1
    · rename_i zs ez; cases x1; exact ez
    · cases x1
  have hm : m < st.length := (List.getElem?_eq_some_iff.mp e).1
  obtain ⟨a0, b0, c0, ep⟩ := j.pu
  refine ⟨st.set m (.lst (xs ++ [q])), by simp only [appM, e]; rw [if_pos (by omega)], by simp only [isLP, e], ⟨a0, b0, c0, by rw [List.getElem?_set_ne ne]; exact ep⟩, j.ne, xs ++ [q], by simp only [deL]; rw [List.getElem?_set_self hm], fun x hx => ?_, by rw [List.length_append]; simp; omega⟩
  rcases List.mem_append.mp hx with h | h
  · exact x2 x h
  · rw [List.mem_singleton.mp h]; exact hq
theorem one_ok (hts : 0 < ts.length ∧ ts.length < 1000) {c w : AV} (hc : chkAll ts c w = true) (hq : OkQ false (.lst [w, c])) {b : AV} {B : Nat} (hB : B + 61 ≤ 10000) {st : Sto} (j : LB n st b B) :
    ∃ b' x8' st', lw_one (FL s gs ts k (.ptr n) (some b) (some c) (some w) x8 x9 x10 x11 x12) st = .ok .next (FL s gs ts k (.ptr n) (some b') (some c) (some w) x8' x9 x10 x11 x12) st' ∧ LB n st' b' (B + 61) := by
  obtain ⟨b1, y8, st1, e1, j1, h1⟩ := turns_loop (I := ⟨rngA 0 4, none⟩) rfl (s := s) (k := k) (gs := gs) (x9 := x9) (x10 := x10) (x11 := x11) (x12 := x12) hts hc (rngA 0 4) b B x8 st (by rw [rngA_len]; omega) j
  rw [rngA_len] at j1
  obtain ⟨m, hm⟩ := h1 (.inr (by simp [rngA]))
  obtain ⟨st2, e2, e3, j2⟩ := lb_app hm (by omega) j1 hq
  refine ⟨b1, y8, st2, ?_, j2⟩
  unfold lw_one
  rw [sSeq_n (fr1 := FL s gs ts k (.ptr n) (some b1) (some c) (some w) y8 x9 x10 x11 x12) (st1 := st1) (by
    have em : mRng mRange1 (mCons (mC (.int 4)) mNil) (FL s gs ts k (.ptr n) (some b) (some c) (some w) x8 x9 x10 x11 x12) st = .ok ⟨rngA 0 4, none⟩ st := rfl
    simp only [sFor, em, RS.of_ok]
    exact e1)]
  have e4 : mVar 5 (FL s gs ts k (.ptr n) (some b1) (some c) (some w) y8 x9 x10 x11 x12) st1 = .ok b1 st1 := rfl
  have e5 : mL lstM (mCons (mVar 7) (mCons (mVar 6) mNil)) (FL s gs ts k (.ptr n) (some b1) (some c) (some w) y8 x9 x10 x11 x12) st1 = .ok (.lst [w, c]) st1 := rfl
  simp only [sExp, mAppend, e4, R.bind_ok, e3, if_true, e5, e2, RS.of_ok]
theorem claims_loop {I : Its} (hI : I.gd = none) (hts : 0 < ts.length ∧ ts.length < 1000) : ∀ (qs : List AV), (∀ q ∈ qs, ∃ c w, q = .lst [c, w] ∧ chkAll ts c w = true ∧ OkQ false (.lst [w, c])) → ∀ (b : AV) (B : Nat) (x6 x7 x8 : Option AV) (st : Sto), B + 61 * qs.length ≤ 10000 → LB n st b B →
    ∃ b' x6' x7' x8' st', forL I (.tp [6, 7]) lw_one qs (FL s gs ts k (.ptr n) (some b) x6 x7 x8 x9 x10 x11 x12) st = .ok .next (FL s gs ts k (.ptr n) (some b') x6' x7' x8' x9 x10 x11 x12) st' ∧ LB n st' b' (B + 61 * qs.length)
  | [], _, b, B, x6, x7, x8, st, _, j => ⟨b, x6, x7, x8, st, by simp only [forL]; rw [if_pos (show gdok I st by simp [gdok, gdokB, hI])], j⟩
  | q :: qs, hq, b, B, x6, x7, x8, st, hB, j => by
    simp only [List.length_cons] at hB
    obtain ⟨c, w, rfl, h1, h2⟩ := hq q List.mem_cons_self
    obtain ⟨b1, y8, st1, e1, j1⟩ := one_ok (s := s) (k := k) (gs := gs) (x8 := x8) (x9 := x9) (x10 := x10) (x11 := x11) (x12 := x12) hts h1 h2 (by omega) j
    obtain ⟨b', x6', x7', x8', st', e2, j2⟩ := claims_loop hI hts qs (fun x hx => hq x (List.mem_cons_of_mem _ hx)) b1 (B + 61) (some c) (some w) y8 st1 (by omega) j1
    refine ⟨b', x6', x7', x8', st', ?_, by rw [List.length_cons, show B + 61 * (qs.length + 1) = B + 61 + 61 * qs.length by omega]; exact j2⟩
    unfold forL
    simp only [setTgt, deTL, List.length_cons, List.length_nil, if_true, setAll, List.set_cons_succ, List.set_cons_zero]
    rw [if_pos (show gdok I st by simp [gdok, gdokB, hI]), e1]
    exact e2
end
end MM
set_option Elab.async false
set_option linter.all false
set_option maxRecDepth 100000
set_option maxHeartbeats 0
/-! Plain: k72's law answers True: the tail, the loop, the whole. -/
namespace MM
open PySem PySem.Spec PyProof.Rows L2
section
variable {s k : AV} {gs ts : List AV} {n : Nat} {x6 x7 x8 x9 x10 x11 x12 : Option AV}
/-! ### all the pairs are judged -/
abbrev lw_judge (v : Bool) : Fr → M AV := m2 isBM (mCallF 2 p_holds [] (mCons (mVar 11) (mCons (mVar 12) mNil))) (mC (.bl v))
abbrev lw_judgeK (v : Bool) : Fr → M AV := m2 isBM (mCallF 2 p_holds [] (mSw (mCons (mVar 12) (mCons (mVar 11) mNil)))) (mC (.bl v))
theorem judge_ok {p : AV} {b : Option AV} {v : Bool} {c w : AV} (e : p_holds [c, w] [] = .ok (.bl v) []) (st : Sto) : lw_judge v (FL s gs ts k p b x6 x7 x8 x9 x10 (some c) (some w)) st = .ok (.bl true) st ∧ lw_judgeK v (FL s gs ts k p b x6 x7 x8 x9 x10 (some c) (some w)) st = .ok (.bl true) st := by
  have eh : p_holds [c, w] st = .ok (.bl v) st := pureM_st e st
  exact ⟨by simp [lw_judge, m2, mCallF, mCons, mNil, mVar, mC, eh, isBM], by simp [lw_judgeK, m2, mCallF, mSw, sw, mCons, mNil, mVar, mC, eh, isBM]⟩
theorem pairs_loop {p : AV} {b : Option AV} (v : Bool) {st : Sto} {I : Its} (hI : gdok I st) {me : Fr → M AV} (hme : me = lw_judge v ∨ me = lw_judgeK v) : ∀ (qs : List AV), (∀ q ∈ qs, IsP v q) →
    compL I (.tp [11, 12]) mYes me (FL s gs ts k p b x6 x7 x8 x9 x10 none none) qs st = .ok (qs.map fun _ => .bl true) st
  | [], _ => by unfold compL; rw [if_pos hI]; rfl
  | q :: qs, h => by
    obtain ⟨c1, s1, rfl, e⟩ := h q List.mem_cons_self
    have ih := pairs_loop (p := p) (b := b) v hI hme qs fun x hx => h x (List.mem_cons_of_mem _ hx)
    have em : me (FL s gs ts k p b x6 x7 x8 x9 x10 (some c1) (some s1)) st = .ok (.bl true) st := by
      rcases hme with rfl | rfl
      · exact (judge_ok e st).1
      · exact (judge_ok e st).2
    unfold compL
    rw [if_pos hI]
    simp only [setTgt, deTL, List.length_cons, List.length_nil, if_true, setAll, List.set_cons_succ, List.set_cons_zero, mYes, R.nox_ok, R.bind_ok]
    rw [em]
    simp only [R.nox_ok, R.bind_ok]
    rw [ih]
    rfl
theorem all_true {qs : List AV} {st : Sto} : allM [.lst (qs.map fun _ => AV.bl true)] st = .ok (.bl true) st := by
  have e : (qs.map fun _ => AV.bl true) = (qs.map fun _ => true).map AV.bl := by rw [List.map_map]; rfl
  simp only [allM, deL, e, asBls_map]
  have : (qs.map fun _ => true).all id = true := by simp
  rw [this]
theorem judged {p : AV} {b : Option AV} {v : Bool} {i : Nat} {st : Sto} {qs : List AV} {o : AV} {g : Option Nat} {me : Fr → M AV} (hme : me = lw_judge v ∨ me = lw_judgeK v) (hi : (FL s gs ts k p b x6 x7 x8 x9 x10 x11 x12)[i]? = some (some o)) (ho : itsOf st o = some ⟨qs, g⟩) (hg : gdok ⟨qs, g⟩ st) (h : ∀ q ∈ qs, IsP v q) (hl : qs.length ≤ 16000000) :
    mL allM (mCons (mComp [11, 12] (.tp [11, 12]) (mIter (mVar i)) mYes me) mNil) (FL s gs ts k p b x6 x7 x8 x9 x10 x11 x12) st = .ok (.bl true) st := by
  have e : mComp [11, 12] (.tp [11, 12]) (mIter (mVar i)) mYes me (FL s gs ts k p b x6 x7 x8 x9 x10 x11 x12) st = .ok (.lst (qs.map fun _ => .bl true)) st := by
    have q := pairs_loop (s := s) (k := k) (gs := gs) (ts := ts) (x6 := x6) (x7 := x7) (x8 := x8) (x9 := x9) (x10 := x10) (p := p) (b := b) v hg hme qs h
    simp only [mComp, mIter, mVar, hi, R.bind_ok, ho]
    rw [if_pos hl]
    show (compL ⟨qs, g⟩ _ _ _ (FL s gs ts k p b x6 x7 x8 x9 x10 none none) qs st).bind _ = _
    rw [q]
    rfl
  simp only [mL, mCons, mNil, e, R.bind_ok, all_true]
/-! ### repr -/
theorem szAs_le4 {v : Bool} : ∀ {xs : List AV}, (∀ q ∈ xs, OkQ v q) → ∃ m, szAs repsL xs = some m ∧ m ≤ 4002 * xs.length
  | [], _ => ⟨0, rfl, Nat.le_refl _⟩
  | x :: xs, h => by
    obtain ⟨m, e, l⟩ := szAs_le4 fun q hq => h q (List.mem_cons_of_mem _ hq)
    obtain ⟨a, e1, l1⟩ := (h x List.mem_cons_self).s.sz
    exact ⟨a + 2 + m, by simp only [szAs, e1, e], by rw [List.length_cons]; omega⟩
theorem dpAs_le4 {v : Bool} : ∀ {xs : List AV}, (∀ q ∈ xs, OkQ v q) → dpAs 8 xs ≤ 25
  | [], _ => Nat.zero_le _
  | x :: xs, h => by
    have e := dpAs_le4 fun q hq => h q (List.mem_cons_of_mem _ hq)
    have e1 := (h x List.mem_cons_self).s.dp
    simp only [dpAs]; omega
theorem pfrees4 {v : Bool} : ∀ {xs : List AV}, (∀ q ∈ xs, OkQ v q) → pfrees xs = true
  | [], _ => rfl
  | x :: xs, h => by
    simp only [pfrees, Bool.and_eq_true]
    exact ⟨(h x List.mem_cons_self).s.pf, pfrees4 fun q hq => h q (List.mem_cons_of_mem _ hq)⟩
theorem frz_b {st : Sto} {b : AV} {xs : List AV} (hb : deL st b = some xs) (hp : pfrees xs = true) : subs (frzT st 6) b = some (.lst xs) := by
  cases b with
  | lst ys =>
    cases hb
    simp only [subs, subss_free hp, Option.map_some]
  | ptr m =>
    simp only [deL] at hb
    split at hb
    · rename_i ys ey
      cases hb
      simp only [subs, frzT, ey, frzO, subss_free hp, Option.map_some]
    · cases hb
  | _ => cases hb
theorem repr_ok (hgs : ∀ q ∈ gs, OkQ true q) (lgs : gs.length ≤ 100) {st : Sto} {b : AV} {xs : List AV} (hb : deL st b = some xs) (hx : ∀ q ∈ xs, OkQ false q) (lx : xs.length ≤ 2300) : reprA repsL 8 30 [.lst [.lst gs, b]] st = .ok (.str (listText (shAs repsL [.lst gs, .lst xs]))) st := by
  have p1 := pfrees4 hgs
  have p2 := pfrees4 hx
  have ef : frz st (.lst [.lst gs, b]) = some (.lst [.lst gs, .lst xs]) := by
    simp only [frz, subs, subss, subss_free p1, frz_b hb p2, Option.map_some]
  obtain ⟨m1, e1, l1⟩ := szAs_le4 hgs
  obtain ⟨m2, e2, l2⟩ := szAs_le4 hx
  have d1 := dpAs_le4 hgs
  have d2 := dpAs_le4 hx
  have hz : fitA repsL [.lst gs, .lst xs] = true := by
    simp only [fitA, szAs, szA, e1, e2, Option.map_some]
    exact decide_eq_true (by omega)
  have hd : dpAs 8 [.lst gs, .lst xs] ≤ 30 := by simp only [dpAs, dpA]; omega
  simp only [reprA, ef]
  rw [if_pos ⟨hz, hd⟩]
theorem its_of {st : Sto} {b : AV} {xs : List AV} (hb : deL st b = some xs) : ∃ g, itsOf st b = some ⟨xs, g⟩ ∧ gdok ⟨xs, g⟩ st := by
  cases b with
  | lst ys => cases hb; exact ⟨none, rfl, rfl⟩
  | ptr m =>
    simp only [deL] at hb
    split at hb
    · rename_i ys ey
      cases hb
      exact ⟨some m, by simp only [itsOf, ey], by simp only [gdok, gdokB, ey, sameVs_refl]⟩
    · cases hb
  | _ => cases hb
theorem tail_ok (hgs : ∀ q ∈ gs, OkQ true q) (lgs : gs.length ≤ 100) {p b : AV} {st : Sto} {xs : List AV} (hb : deL st b = some xs) (hx : ∀ q ∈ xs, OkQ false q) (lx : xs.length ≤ 2300) :
    ∃ y9, lw_tail (FL s gs ts k p (some b) x6 x7 x8 x9 x10 x11 x12) st = .ok .next (FL s gs ts k p (some b) x6 x7 x8 y9 x10 x11 x12) st := by
  have er := repr_ok hgs lgs hb hx lx
  generalize hT : (listText (shAs repsL [.lst gs, .lst xs])) = T at er
  have er1 : ∀ y, mL (reprA repsL 8 30) (mCons (mL lstM (mCons (mVar 1) (mCons (mVar 5) mNil))) mNil) (FL s gs ts k p (some b) x6 x7 x8 y x10 x11 x12) st = .ok (.str T) st := fun y => by
    have e0 : mCons (mL lstM (mCons (mVar 1) (mCons (mVar 5) mNil))) mNil (FL s gs ts k p (some b) x6 x7 x8 y x10 x11 x12) st = .ok [.lst [.lst gs, b]] st := rfl
    unfold mL
    unfold mL at e0
    rw [e0, R.bind_ok]
    exact er
  obtain ⟨g, hi, hg⟩ := its_of hb
  have jg := judged (s := s) (k := k) (gs := gs) (ts := ts) (x6 := x6) (x7 := x7) (x8 := x8) (x9 := some (.str T)) (x10 := x10) (x11 := x11) (x12 := x12) (p := p) (b := some b) (v := true) (i := 1) (st := st) (qs := gs) (o := .lst gs) (g := none) (.inl rfl) rfl rfl rfl (fun q hq => (hgs q hq).p) (by omega)
  have jk := judged (s := s) (k := k) (gs := gs) (ts := ts) (x6 := x6) (x7 := x7) (x8 := x8) (x9 := some (.str T)) (x10 := x10) (x11 := x11) (x12 := x12) (p := p) (b := some b) (v := true) (i := 1) (st := st) (qs := gs) (o := .lst gs) (g := none) (.inr rfl) rfl rfl rfl (fun q hq => (hgs q hq).p) (by omega)
  have jb := judged (s := s) (k := k) (gs := gs) (ts := ts) (x6 := x6) (x7 := x7) (x8 := x8) (x9 := some (.str T)) (x10 := x10) (x11 := x11) (x12 := x12) (p := p) (b := some b) (v := false) (i := 5) (st := st) (qs := xs) (o := b) (g := g) (.inl rfl) rfl hi hg (fun q hq => (hx q hq).p) (by omega)
  refine ⟨some (.str T), ?_⟩
  unfold lw_tail
  rw [sSeq_n (a := lw_text) (fr1 := FL s gs ts k p (some b) x6 x7 x8 (some (.str T)) x10 x11 x12) (st1 := st) (by
    simp only [lw_text, sAsg, er1, RS.of_ok, setTgt]; rfl)]
  rw [sSeq_n (a := lw_good) (fr1 := FL s gs ts k p (some b) x6 x7 x8 (some (.str T)) x10 x11 x12) (st1 := st) (by
    simp only [lw_good, sIf, bNot, mB, jg, R.bind_ok, RS.of_ok]; rfl)]
  rw [sSeq_n (a := lw_bad) (fr1 := FL s gs ts k p (some b) x6 x7 x8 (some (.str T)) x10 x11 x12) (st1 := st) (by
    simp only [lw_bad, sIf, bNot, mB, jb, R.bind_ok, RS.of_ok]; rfl)]
  have ene : m2 ne2M (mL (reprA repsL 8 30) (mCons (mL lstM (mCons (mVar 1) (mCons (mVar 5) mNil))) mNil)) (mVar 9) (FL s gs ts k p (some b) x6 x7 x8 (some (.str T)) x10 x11 x12) st = .ok (.bl false) st := by
    simp only [m2, er1, R.bind_ok, mVar, List.getElem?_cons_succ, List.getElem?_cons_zero, ne2M, decide_true, Bool.not_true]
  simp only [lw_again, sIf, bOr, bNot, mB, jk, ene, R.bind_ok, RS.of_ok]
  rfl
/-! ### the whole law -/
structure Good72 (gs ts : List AV) : Prop where
  g : ∀ q ∈ gs, OkQ true q
  lg : gs.length ≤ 20
  lt : 0 < ts.length ∧ ts.length < 1000
  t : ∀ t ∈ ts, ∀ u ∈ ts, OkQ false (.lst [t, u])
  b : ∀ q ∈ gs, ∃ c w, q = .lst [c, w] ∧ chkAll ts c w = true ∧ OkQ false (.lst [w, c])
theorem body_ok (G : Good72 gs ts) (ns : List Int) {i : Int} (h0 : 0 ≤ i) (h1 : i ≤ 100) (x4 x5 x6 x7 x8 x9 x10 x11 x12 : Option AV) (st : Sto) :
    ∃ y4 y5 y6 y7 y8 y9 st', lw_body [some (.lst (ns.map AV.int)), some (.lst gs), some (.lst ts), some (.int i), x4, x5, x6, x7, x8, x9, x10, x11, x12] st = .ok .next [some (.lst (ns.map AV.int)), some (.lst gs), some (.lst ts), some (.int i), y4, y5, y6, y7, y8, y9, x10, x11, x12] st' := by
  obtain ⟨z, ez⟩ := cell_ok ns h0 h1 st
  obtain ⟨a, b, ep⟩ := purse_ok z st
  have e1 : lw_purse [some (.lst (ns.map AV.int)), some (.lst gs), some (.lst ts), some (.int i), x4, x5, x6, x7, x8, x9, x10, x11, x12] st = .ok .next (FL (.lst (ns.map AV.int)) gs ts (.int i) (.ptr st.length) x5 x6 x7 x8 x9 x10 x11 x12) (st ++ [.lst [.int a, .int b, .int 0]]) := by
    simp [lw_purse, sAsg, mCallF, mCons, mNil, mVar, ez, ep, setTgt]
  have hp : PurseAt (st ++ [.lst [.int a, .int b, .int 0]]) st.length := ⟨a, b, 0, by rw [List.getElem?_append_right (Nat.le_refl _)]; simp⟩
  obtain ⟨b1, st1, e2, j1⟩ := lw_things_ok (s := .lst (ns.map AV.int)) (k := .int i) (gs := gs) (x6 := x6) (x7 := x7) (x8 := x8) (x9 := x9) (x10 := x10) (x11 := x11) (x12 := x12) (b := x5) G.lt G.t hp
  have lg := G.lg
  have lt := G.lt
  obtain ⟨b2, y6, y7, y8, st2, e3, j2⟩ := claims_loop (I := ⟨gs, none⟩) rfl (s := .lst (ns.map AV.int)) (k := .int i) (gs := gs) (x9 := x9) (x10 := x10) (x11 := x11) (x12 := x12) G.lt gs G.b b1 ts.length x6 x7 x8 st1 (by omega) j1
  obtain ⟨xs, d1, d2, d3⟩ := j2.xs
  obtain ⟨y9, e4⟩ := tail_ok (s := .lst (ns.map AV.int)) (k := .int i) (ts := ts) (x6 := y6) (x7 := y7) (x8 := y8) (x9 := x9) (x10 := x10) (x11 := x11) (x12 := x12) G.g (by omega) (p := .ptr st.length) d1 d2 (by omega)
  refine ⟨some (.ptr st.length), some b2, y6, y7, y8, y9, st2, ?_⟩
  unfold lw_body
  rw [sSeq_n e1, sSeq_n e2]
  rw [sSeq_n (a := lw_claims) (by
    have em : mIter (mVar 1) (FL (.lst (ns.map AV.int)) gs ts (.int i) (.ptr st.length) (some b1) x6 x7 x8 x9 x10 x11 x12) st1 = .ok ⟨gs, none⟩ st1 := rfl
    simp only [lw_claims, sFor, em, RS.of_ok]
    exact e3)]
  exact e4
theorem law_loop (G : Good72 gs ts) {I : Its} (hI : I.gd = none) (ns : List Int) : ∀ (ks : List Int), (∀ k ∈ ks, 0 ≤ k ∧ k ≤ 100) → ∀ (x3 x4 x5 x6 x7 x8 x9 x10 x11 x12 : Option AV) (st : Sto),
    ∃ fr' st', forL I (.nm 3) lw_body (ks.map AV.int) [some (.lst (ns.map AV.int)), some (.lst gs), some (.lst ts), x3, x4, x5, x6, x7, x8, x9, x10, x11, x12] st = .ok .next fr' st'
  | [], _, x3, x4, x5, x6, x7, x8, x9, x10, x11, x12, st => ⟨_, _, by simp only [List.map_nil, forL]; rw [if_pos (show gdok I st by simp [gdok, gdokB, hI])]⟩
  | k :: ks, hk, x3, x4, x5, x6, x7, x8, x9, x10, x11, x12, st => by
    obtain ⟨h0, h1⟩ := hk k List.mem_cons_self
    obtain ⟨y4, y5, y6, y7, y8, y9, st', eb⟩ := body_ok G ns h0 h1 x4 x5 x6 x7 x8 x9 x10 x11 x12 st
    obtain ⟨fr', st'', e⟩ := law_loop G hI ns ks (fun z hz => hk z (List.mem_cons_of_mem _ hz)) (some (.int k)) y4 y5 y6 y7 y8 y9 x10 x11 x12 st'
    refine ⟨fr', st'', ?_⟩
    rw [List.map_cons]
    unfold forL
    simp only [setTgt, List.set_cons_succ, List.set_cons_zero]
    rw [if_pos (show gdok I st by simp [gdok, gdokB, hI]), eb]
    exact e
end
theorem rngA_ints : ∀ (n : Nat) (lo : Int), 0 ≤ lo → lo + n ≤ 100 → ∃ ks : List Int, rngA lo n = ks.map AV.int ∧ ∀ k ∈ ks, 0 ≤ k ∧ k ≤ 100
  | 0, _, _, _ => ⟨[], rfl, fun _ h => by cases h⟩
  | n + 1, lo, h0, h1 => by
    obtain ⟨ks, e, hk⟩ := rngA_ints n (lo + 1) (by omega) (by omega)
    refine ⟨lo :: ks, by rw [rngA, e]; rfl, fun k h => ?_⟩
    rcases List.mem_cons.mp h with h | h
    · subst h; omega
    · exact hk k h
abbrev lw_rng : Fr → M Its := mRng mRange1 (mCons (mL max2M (mCons (mC (.int 2)) (mCons (mL min2M (mCons (mL lenM (mCons (mVar 0) mNil)) (mCons (mC (.int 3)) mNil))) mNil))) mNil)
theorem rng_ok (ns : List Int) (x : List (Option AV)) (st : Sto) : ∃ m : Nat, m ≤ 3 ∧ lw_rng (some (.lst (ns.map AV.int)) :: x) st = .ok ⟨rngA 0 m, none⟩ st := by
  refine ⟨(if (if (3 : Int) < ns.length then 3 else (ns.length : Int)) > 2 then (if (3 : Int) < ns.length then 3 else (ns.length : Int)) else 2).toNat, by split <;> split <;> omega, ?_⟩
  simp only [lw_rng, mRng, mL, mCons, mNil, mC, mVar, List.getElem?_cons_zero, R.bind_ok, lenM, deS, deT, deL, List.length_map, min2M, max2M, mRange1]
  rw [if_pos (by split <;> split <;> omega)]
theorem p_law_ok {gs ts : List AV} (G : Good72 gs ts) (hg : p_law_good [] [] = .ok (.lst gs) []) (ht : p_law_things [] [] = .ok (.lst ts) []) (ns : List Int) (st : Sto) : p_law [.lst (ns.map AV.int)] st = .ok (.bl true) st := by
  have hp : pfrees [.lst (ns.map AV.int)] = true := by simp [pfrees, pfree, pfrees_ints]
  have key : ∃ fr st', b_law [some (.lst (ns.map AV.int)), none, none, none, none, none, none, none, none, none, none, none, none] [] = .ok (.ret (.bl true)) fr st' := by
    rw [b_law_eq]
    have es : lw_set [some (.lst (ns.map AV.int)), none, none, none, none, none, none, none, none, none, none, none, none] [] = .ok .next [some (.lst (ns.map AV.int)), some (.lst gs), some (.lst ts), none, none, none, none, none, none, none, none, none, none] [] := by
      simp only [lw_set, sAsgG, mL, mCallF, mCons, mNil, R.bind_ok, List.append_nil, List.length_nil, if_true, hg, ht]
      rfl
    rw [sSeq_n es]
    obtain ⟨m, hm, en⟩ := rng_ok ns [some (.lst gs), some (.lst ts), none, none, none, none, none, none, none, none, none, none] []
    obtain ⟨ks, ek, hk⟩ := rngA_ints m 0 (by omega) (by omega)
    obtain ⟨fr', st', el⟩ := law_loop G (I := ⟨rngA 0 m, none⟩) rfl ns ks hk none none none none none none none none none none []
    refine ⟨fr', st', ?_⟩
    rw [sSeq_n (fr1 := fr') (st1 := st') (by
      simp only [sFor, en, RS.of_ok]
      rw [ek] at el ⊢
      exact el)]
    rfl
  obtain ⟨fr, st', e⟩ := key
  exact pureM_ret hp e rfl st
end MM
set_option Elab.async false
set_option linter.all false
set_option maxRecDepth 100000
set_option maxHeartbeats 0
/-! The end of k72. -/
namespace MM
open PySem PySem.Spec PyProof.Rows L2
theorem pairAt_ok {f : AV → AV → Bool} {q : AV} (h : pairAt f q = true) : ∃ c w, q = .lst [c, w] ∧ f c w = true := by
  unfold pairAt at h
  split at h
  · split at h
    · exact ⟨_, _, rfl, h⟩
    · cases h
  · cases h
theorem good72 : Good72 goodL thingsL where
  g := fun q hq => okQ_ok (List.all_eq_true.mp g_okay q hq)
  lg := by decide +kernel
  lt := by decide +kernel
  t := fun t ht u hu => okQ_ok (List.all_eq_true.mp (List.all_eq_true.mp t_pairs t ht) u hu)
  b := fun q hq => by
    obtain ⟨c, w, rfl, h1⟩ := pairAt_ok (List.all_eq_true.mp g_bad q hq)
    obtain ⟨c', w', e, h2⟩ := pairAt_ok (List.all_eq_true.mp g_turned _ hq)
    cases e
    exact ⟨c, w, rfl, h1, okQ_ok h2⟩
theorem sp72 {K : PySem.W.Frag} (nl : ∀ a o, K.lookup a = some o → lstObj o = false) {H : Hp} {a : Addr} {ns : List Int} (hS : SqL K H a (ns.map V.int)) : spM ⟨K, Gm K⟩ 1 p_law [.ref a] H (fun v _ => v = .bl true) (fun _ _ _ => False) := by
  refine ⟨rfl, ⟨[], []⟩, [], [], [.lst (ns.map AV.int)], rep_nil, .cons ?_ .nil, ?_⟩
  · rcases hS with h | ⟨o, its, n, e1, e2, _⟩
    · exact .lst h (fun z => by rcases z with z | z <;> cases z) (VRs.map ns fun _ _ => .int _)
    · have z := nl a o e1
      simp [lstObj, e2] at z
  · show Pst ⟨K, Gm K⟩ _ ⟨[], []⟩ [] [] H _ (p_law [.lst (ns.map AV.int)] [])
    rw [p_law_ok good72 l_good l_things ns []]
    intro ρ' H' s r x hx
    cases hx
    rfl
end MM
open PySem PySem.W PySem.Calls PyProof.Rows MM
theorem PySem.Challenge.cw_clauseshrink_k72_claims_that_are_none_holds : PySem.Challenge.rw_clauseshrink_k72_claims_that_are_none.Holds := by
  w_on; o_law
  refine HandSHeadRun.head_any (r := R72) (q := view R72.prog [81]) (H := hookL 5) (ob := obK) (M := 6200) (loose := loose72) (d := HandSHeadRun.topDef R72.prog 81) (kwd := []) obK_eq
    (by kernel_rfl) (fun s => by kernel_rfl) run72 (by kernel_rfl) (by kernel_rfl) (by kernel_rfl) (by rfl) (by first | assumption | decide +kernel) (by decide +kernel) ⟨rfl, rfl, rfl, rfl, rfl, by decide +kernel⟩ ?hw ?hc
  case hw => w_witness2
  case hc =>
    refine MM.top_walk (l := PySem.Challenge.rw_clauseshrink_k72_claims_that_are_none) (n := 63) (x := "_law_script") rfl (by decide) (by kernel_rfl) ?F
    intro w mg fa h Y G hmg0
    obtain ⟨K, KX, ct, ex, nl⟩ := Y
    have X := fx_of KX G ct ex
    have e : (HandSHeadRun.topDef R72.prog 81).name = ("law" : PySem.Str) := by kernel_rfl
    rw [e] at hmg0
    have efa : He.fAd K D_law.at_ = fa := by
      have z := X.g_law.symm.trans hmg0
      cases z
      rfl
    obtain ⟨fd, T, hb⟩ := top_law (P := (PySem.Challenge.rw_clauseshrink_k72_claims_that_are_none).prog) X
    refine ⟨K, fd, _, KX, hb, fun H a ns hl hO hS => sp72 nl hS, fun base _ _ => ?_⟩
    rw [← efa]
    exact T base
