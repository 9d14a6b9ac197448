import PyProof.Rows.All
import Wide.All
import OpenK.AllK
import Wide.FinOn
import HandS.ForMost
import HandS.Exc
import HandS.Walk
import HandS.Wide
import HandS.TupAny
import HandS.TupMul
import HandS.Style
import HandS.Deep
import HandS.WideBits
import HandS.Flow
import HandS.IsInst
import HandS.SortInts
import HandS.Conv
import KE.KTupSum
import HandS.Defaults
import HandS.Codes
import HandS.HeadHook2
import KE.KStateDown
import HandS.Ends
import HandS.More
import HandS.Words
import HandS.WordsExc
import HandS.Head0
import HandS.Head1
import HandS.Head2
import HandS.HeadEnd
import HandS.HeadHook1
import PySem.Challenge.RW_hivesums_k10_whole_lists_of_conditions
set_option Elab.async false
set_option linter.all false
set_option maxRecDepth 100000
set_option maxHeartbeats 0
set_option autoImplicit false
namespace Py
open PySem Spec PyProof.Rows L2
/-- a datum: what a V stands for, with all below it; ktup: a tuple that the text's top has written; cel k: the k-th mutable object -/
inductive U where
  | non | bl (b : Bool) | int (i : Int) | str (x : Str)
  | tup (l : List U) | ktup (l : List U) | lst (l : List U) | klst (l : List U) | dic (t : Bool) (l : List (U × U)) | row (c : Nat) (l : List U)
  | cel (k : Nat)
/-- the content of a mutable object -/
inductive Ct where
  | lst (l : List U) | dic (t : Bool) (l : List (U × U)) | ins (c : Nat) (l : List U)
/-- a mutable object: it may be changed still (live) or not -/
structure Cl where
  live : Bool
  ct : Ct
def Ct.isDic : Ct → Bool
  | .dic _ _ => true
  | _ => false
/-- how a mutable object's place stands: as it is; a dict that is no more changed may be locked -/
def At (H : Hp) (a : Addr) (o : HO) (c : Cl) : Prop := H a = some o ∨ (c.live = false ∧ c.ct.isDic = true ∧ Rd H a o)
theorem At.rd {H : Hp} {a : Addr} {o : HO} {c : Cl} (h : At H a o c) : Rd H a o := h.elim .inl fun z => z.2.2
/-- keys of dicts -/
def keyOf : U → Option Key
  | .int i => some (.inl i)
  | .str x => some (.inr x)
  | _ => none
def keysOf : List U → Option (List Key)
  | [] => some []
  | u :: us => match keyOf u, keysOf us with
    | some k, some ks => some (k :: ks)
    | _, _ => none
/-- the classes: where each stands, its fields -/
structure ClsD where
  at_ : Addr
  fields : List Str
/-- a list, a tuple of the written part -/
def KLst (K : PySem.W.Frag) (a : Addr) (xs : List V) : Prop := ∃ (o : Obj) (its : Array Value) (n : Nat), K.lookup a = some o ∧ o.cls = .type "list" ∧ o.dict = none ∧ o.data = .seq its n ∧ its.size ≤ sizeLine ∧ Vals xs its.toList
def KTup (K : PySem.W.Frag) (a : Addr) (xs : List V) : Prop := ∃ (o : Obj) (its : Array Value) (n : Nat), K.lookup a = some o ∧ o.cls = .type "tuple" ∧ o.data = .seq its n ∧ its.size ≤ sizeLine ∧ Vals xs its.toList
mutual
inductive RelU (K : PySem.W.Frag) (cs : List ClsD) (Z : Hp) (mu : List Addr) : V → U → Prop
  | non : RelU K cs Z mu .non .non
  | bl (b : Bool) : RelU K cs Z mu (.bl b) (.bl b)
  | int (i : Int) : RelU K cs Z mu (.int i) (.int i)
  | str (x : Str) : RelU K cs Z mu (.str x) (.str x)
  | tup {a : Addr} {xs : List V} {l : List U} : Z a = some (.tup xs) → RelUs K cs Z mu xs l → RelU K cs Z mu (.ref a) (.tup l)
  | ktup {a : Addr} {xs : List V} {l : List U} : KTup K a xs → RelUs K cs Z mu xs l → RelU K cs Z mu (.ref a) (.ktup l)
  | lst {a : Addr} {xs : List V} {l : List U} : Z a = some (.lst xs) → RelUs K cs Z mu xs l → RelU K cs Z mu (.ref a) (.lst l)
  | klst {a : Addr} {xs : List V} {l : List U} : SqL K Z a xs → RelUs K cs Z mu xs l → RelU K cs Z mu (.ref a) (.klst l)
  | dicK {a : Addr} {kvs : List (Key × V)} {l : List (U × U)} : Rd Z a (.dK kvs) → RelK K cs Z mu kvs l → RelU K cs Z mu (.ref a) (.dic false l)
  | dicT {a : Addr} {kvs : List (List Key × V)} {l : List (U × U)} : Rd Z a (.dT kvs) → RelT K cs Z mu kvs l → RelU K cs Z mu (.ref a) (.dic true l)
  | row {a dx : Addr} {c : Nat} {C : ClsD} {fs : List (Str × V)} {l : List U} : cs[c]? = some C → Z a = some (.ins C.at_ dx fs) → fs.map (·.1) = C.fields → RelUs K cs Z mu (fs.map (·.2)) l → RelU K cs Z mu (.ref a) (.row c l)
  | cel {k : Nat} {a : Addr} : mu[k]? = some a → RelU K cs Z mu (.ref a) (.cel k)
inductive RelUs (K : PySem.W.Frag) (cs : List ClsD) (Z : Hp) (mu : List Addr) : List V → List U → Prop
  | nil : RelUs K cs Z mu [] []
  | cons {v : V} {u : U} {vs : List V} {us : List U} : RelU K cs Z mu v u → RelUs K cs Z mu vs us → RelUs K cs Z mu (v :: vs) (u :: us)
/-- plain keys -/
inductive RelK (K : PySem.W.Frag) (cs : List ClsD) (Z : Hp) (mu : List Addr) : List (Key × V) → List (U × U) → Prop
  | nil : RelK K cs Z mu [] []
  | cons {k : Key} {ku : U} {v : V} {u : U} {vs : List (Key × V)} {us : List (U × U)} : keyOf ku = some k → RelU K cs Z mu v u → RelK K cs Z mu vs us → RelK K cs Z mu ((k, v) :: vs) ((ku, u) :: us)
/-- tuple keys -/
inductive RelT (K : PySem.W.Frag) (cs : List ClsD) (Z : Hp) (mu : List Addr) : List (List Key × V) → List (U × U) → Prop
  | nil : RelT K cs Z mu [] []
  | cons {k : List Key} {ku : List U} {v : V} {u : U} {vs : List (List Key × V)} {us : List (U × U)} : keysOf ku = some k → RelU K cs Z mu v u → RelT K cs Z mu vs us → RelT K cs Z mu ((k, v) :: vs) ((.tup ku, u) :: us)
end
section
variable {K : PySem.W.Frag} {cs : List ClsD} {Z Z' : Hp} {mu mu' : List Addr}
/-- more is known -/
structure Up (Z : Hp) (mu : List Addr) (Z' : Hp) (mu' : List Addr) : Prop where
  r : ∀ (a : Addr) (u : HO), Rd Z a u → Rd Z' a u
  i : ∀ (a C dx : Addr) (fs : List (Str × V)), Z a = some (.ins C dx fs) → Z' a = some (.ins C dx fs)
  t : ∀ (a : Addr) (xs : List V), Z a = some (.tup xs) → Z' a = some (.tup xs)
  l : ∀ (a : Addr) (xs : List V), Z a = some (.lst xs) → Z' a = some (.lst xs)
  m : ∀ (k : Nat) (a : Addr), mu[k]? = some a → mu'[k]? = some a
theorem Up.refl : Up Z mu Z mu := ⟨fun _ _ h => h, fun _ _ _ _ h => h, fun _ _ h => h, fun _ _ h => h, fun _ _ h => h⟩
theorem Up.trans {Z2 : Hp} {mu2 : List Addr} (a : Up Z mu Z' mu') (b : Up Z' mu' Z2 mu2) : Up Z mu Z2 mu2 :=
  ⟨fun x o h => b.r x o (a.r x o h), fun x c d f h => b.i x c d f (a.i x c d f h), fun x xs h => b.t x xs (a.t x xs h), fun x xs h => b.l x xs (a.l x xs h), fun k x h => b.m k x (a.m k x h)⟩
theorem rd_up (h : ∀ a o, Z a = some o → Z' a = some o) {a : Addr} {o : HO} (r : Rd Z a o) : Rd Z' a o := by
  rcases r with r | ⟨ob, r⟩
  · exact .inl (h _ _ r)
  · exact .inr ⟨ob, h _ _ r⟩
theorem Up.of (h : ∀ a o, Z a = some o → Z' a = some o) (m : ∀ (k : Nat) (a : Addr), mu[k]? = some a → mu'[k]? = some a) : Up Z mu Z' mu' :=
  ⟨fun _ _ r => rd_up h r, fun _ _ _ _ q => h _ _ q, fun _ _ q => h _ _ q, fun _ _ q => h _ _ q, m⟩
theorem Up.sqL (e : Up Z mu Z' mu') {a : Addr} {xs : List V} (r : SqL K Z a xs) : SqL K Z' a xs := by
  rcases r with r | r
  · exact .inl (e.r _ _ r)
  · exact .inr r
mutual
theorem RelU.up (e : Up Z mu Z' mu') : ∀ {v : V} {u : U}, RelU K cs Z mu v u → RelU K cs Z' mu' v u
  | _, _, .non => .non
  | _, _, .bl b => .bl b
  | _, _, .int i => .int i
  | _, _, .str x => .str x
  | _, _, .tup h r => .tup (e.t _ _ h) (RelUs.up e r)
  | _, _, .ktup h r => .ktup h (RelUs.up e r)
  | _, _, .lst h r => .lst (e.l _ _ h) (RelUs.up e r)
  | _, _, .klst h r => .klst (e.sqL h) (RelUs.up e r)
  | _, _, .dicK h r => .dicK (e.r _ _ h) (RelK.up e r)
  | _, _, .dicT h r => .dicT (e.r _ _ h) (RelT.up e r)
  | _, _, .row c h f r => .row c (e.i _ _ _ _ h) f (RelUs.up e r)
  | _, _, .cel h => .cel (e.m _ _ h)
theorem RelUs.up (e : Up Z mu Z' mu') : ∀ {vs : List V} {us : List U}, RelUs K cs Z mu vs us → RelUs K cs Z' mu' vs us
  | _, _, .nil => .nil
  | _, _, .cons h r => .cons (RelU.up e h) (RelUs.up e r)
theorem RelK.up (e : Up Z mu Z' mu') : ∀ {vs : List (Key × V)} {us : List (U × U)}, RelK K cs Z mu vs us → RelK K cs Z' mu' vs us
  | _, _, .nil => .nil
  | _, _, .cons k h r => .cons k (RelU.up e h) (RelK.up e r)
theorem RelT.up (e : Up Z mu Z' mu') : ∀ {vs : List (List Key × V)} {us : List (U × U)}, RelT K cs Z mu vs us → RelT K cs Z' mu' vs us
  | _, _, .nil => .nil
  | _, _, .cons k h r => .cons k (RelU.up e h) (RelT.up e r)
end
theorem RelUs.length : ∀ {vs : List V} {us : List U}, RelUs K cs Z mu vs us → vs.length = us.length
  | _, _, .nil => rfl
  | _, _, .cons _ r => congrArg (· + 1) r.length
theorem RelUs.get : ∀ {vs : List V} {us : List U}, RelUs K cs Z mu vs us → ∀ (i : Nat) (u : U), us[i]? = some u → ∃ v, vs[i]? = some v ∧ RelU K cs Z mu v u
  | _, _, .nil, _, _, h => by simp at h
  | _, _, .cons h r, 0, _, e => by
    simp at e
    subst e
    exact ⟨_, rfl, h⟩
  | _, _, .cons h r, i + 1, u, e => by
    obtain ⟨v, h1, h2⟩ := RelUs.get r i u (by simpa using e)
    exact ⟨v, by simpa using h1, h2⟩
theorem RelUs.append : ∀ {vs : List V} {us : List U} {vs' : List V} {us' : List U}, RelUs K cs Z mu vs us → RelUs K cs Z mu vs' us' → RelUs K cs Z mu (vs ++ vs') (us ++ us')
  | _, _, _, _, .nil, q => q
  | _, _, _, _, .cons h r, q => .cons h (RelUs.append r q)
theorem RelUs.take : ∀ {vs : List V} {us : List U} (n : Nat), RelUs K cs Z mu vs us → RelUs K cs Z mu (vs.take n) (us.take n)
  | _, _, 0, _ => .nil
  | _, _, _ + 1, .nil => .nil
  | _, _, n + 1, .cons h r => .cons h (RelUs.take n r)
theorem RelUs.drop : ∀ {vs : List V} {us : List U} (n : Nat), RelUs K cs Z mu vs us → RelUs K cs Z mu (vs.drop n) (us.drop n)
  | _, _, 0, q => q
  | _, _, _ + 1, .nil => .nil
  | _, _, n + 1, .cons _ r => RelUs.drop n r
theorem RelUs.set : ∀ {vs : List V} {us : List U} (n : Nat) {v : V} {u : U}, RelU K cs Z mu v u → RelUs K cs Z mu vs us → RelUs K cs Z mu (vs.set n v) (us.set n u)
  | _, _, _, _, _, _, .nil => .nil
  | _, _, 0, _, _, q, .cons _ r => .cons q r
  | _, _, n + 1, _, _, q, .cons h r => .cons h (RelUs.set n q r)
theorem RelUs.rev {vs : List V} {us : List U} (r : RelUs K cs Z mu vs us) : RelUs K cs Z mu vs.reverse us.reverse := by
  have go : ∀ {vs : List V} {us : List U}, RelUs K cs Z mu vs us → ∀ {vs' : List V} {us' : List U}, RelUs K cs Z mu vs' us' → RelUs K cs Z mu (vs.reverse ++ vs') (us.reverse ++ us') := by
    intro vs us r
    induction vs generalizing us with
    | nil => cases r; intro _ _ q; exact q
    | cons v vs ih =>
      cases r with
      | cons h r =>
        intro vs' us' q
        rw [List.reverse_cons, List.reverse_cons, List.append_assoc, List.append_assoc]
        exact ih r (.cons h q)
  have := go r .nil
  simpa using this
theorem RelUs.eraseIdx : ∀ {vs : List V} {us : List U} (n : Nat), RelUs K cs Z mu vs us → RelUs K cs Z mu (vs.eraseIdx n) (us.eraseIdx n)
  | _, _, _, .nil => .nil
  | _, _, 0, .cons _ r => r
  | _, _, n + 1, .cons h r => .cons h (RelUs.eraseIdx n r)
theorem RelUs.dropLast : ∀ {vs : List V} {us : List U}, RelUs K cs Z mu vs us → RelUs K cs Z mu vs.dropLast us.dropLast
  | _, _, .nil => .nil
  | _, _, .cons h .nil => .nil
  | _, _, .cons h (.cons h2 r) => by
    rw [List.dropLast_cons_of_ne_nil (List.cons_ne_nil _ _), List.dropLast_cons_of_ne_nil (List.cons_ne_nil _ _)]
    exact .cons h (RelUs.dropLast (.cons h2 r))
/-- scalars: the datum tells the value -/
theorem RelU.int_inv {v : V} {i : Int} (h : RelU K cs Z mu v (.int i)) : v = .int i := by cases h; rfl
theorem RelU.bl_inv {v : V} {b : Bool} (h : RelU K cs Z mu v (.bl b)) : v = .bl b := by cases h; rfl
theorem RelU.str_inv {v : V} {x : Str} (h : RelU K cs Z mu v (.str x)) : v = .str x := by cases h; rfl
theorem RelU.non_inv {v : V} (h : RelU K cs Z mu v .non) : v = .non := by cases h; rfl
end
/-! ### worlds -/
/-- the mutable objects that are live -/
def liveAt (mu : List Addr) (C : List Cl) (a : Addr) : Prop := ∃ (k : Nat) (c : Ct), mu[k]? = some a ∧ C[k]? = some ⟨true, c⟩
open Classical in
/-- what is known for good: all but the live ones and the hidden ones -/
noncomputable def Zof (H : Hp) (mu : List Addr) (C : List Cl) (hid : List Addr) : Hp := fun a => if liveAt mu C a ∨ a ∈ hid then none else H a
section
variable {H : Hp} {mu : List Addr} {C : List Cl} {hid : List Addr} {a : Addr} {o : HO}
theorem zof_some (h : Zof H mu C hid a = some o) : H a = some o ∧ ¬ liveAt mu C a ∧ a ∉ hid := by
  unfold Zof at h
  split at h
  · cases h
  · rename_i n
    exact ⟨h, fun z => n (.inl z), fun z => n (.inr z)⟩
theorem zof_of (h : H a = some o) (n : ¬ liveAt mu C a) (m : a ∉ hid) : Zof H mu C hid a = some o := by
  unfold Zof
  rw [if_neg (fun z => z.elim n m)]
  exact h
theorem zof_le : ∀ a o, Zof H mu C hid a = some o → H a = some o := fun _ _ h => (zof_some h).1
theorem zof_rd {u : HO} (h : Rd (Zof H mu C hid) a u) : Rd H a u := rd_up zof_le h
end
/-- the content of a mutable object as it lies -/
inductive RelC (K : PySem.W.Frag) (cs : List ClsD) (Z : Hp) (mu : List Addr) : HO → Ct → Prop
  | lst {xs : List V} {l : List U} : RelUs K cs Z mu xs l → RelC K cs Z mu (.lst xs) (.lst l)
  | dicK {kvs : List (Key × V)} {l : List (U × U)} : RelK K cs Z mu kvs l → RelC K cs Z mu (.dK kvs) (.dic false l)
  | dicT {kvs : List (List Key × V)} {l : List (U × U)} : RelT K cs Z mu kvs l → RelC K cs Z mu (.dT kvs) (.dic true l)
  | ins {dx : Addr} {c : Nat} {Cc : ClsD} {fs : List (Str × V)} {l : List U} : cs[c]? = some Cc → fs.map (·.1) = Cc.fields.take l.length → RelUs K cs Z mu (fs.map (·.2)) l → RelC K cs Z mu (.ins Cc.at_ dx fs) (.ins c l)
structure WOk (K : PySem.W.Frag) (cs : List ClsD) (H : Hp) (mu : List Addr) (C : List Cl) (hid : List Addr) : Prop where
  len : mu.length = C.length
  inj : ∀ (i j : Nat) (a : Addr) (c d : Cl), mu[i]? = some a → mu[j]? = some a → C[i]? = some c → C[j]? = some d → c.live = true → i = j
  ct : ∀ (k : Nat) (c : Cl), C[k]? = some c → ∃ (a : Addr) (o : HO), mu[k]? = some a ∧ At H a o c ∧ RelC K cs (Zof H mu C hid) mu o c.ct
  hc : ∀ (k : Nat) (a : Addr), mu[k]? = some a → a ∉ hid
  hh : ∀ a ∈ hid, ∃ o, H a = some o
/-- one world grows into another; the hidden objects stay -/
structure Grow (hid : List Addr) (H : Hp) (mu : List Addr) (C : List Cl) (H' : Hp) (mu' : List Addr) (C' : List Cl) : Prop where
  up : Up (Zof H mu C hid) mu (Zof H' mu' C' hid) mu'
  hid : ∀ a ∈ hid, H' a = H a
section
variable {K : PySem.W.Frag} {cs : List ClsD} {H H' : Hp} {mu mu' : List Addr} {C C' : List Cl} {a p : Addr} {o : HO} {hid : List Addr}
theorem RelC.up {Z Z' : Hp} (e : Up Z mu Z' mu') {o : HO} {c : Ct} (h : RelC K cs Z mu o c) : RelC K cs Z' mu' o c := by
  cases h with
  | lst h => exact .lst (h.up e)
  | dicK h => exact .dicK (h.up e)
  | dicT h => exact .dicT (h.up e)
  | ins c f h => exact .ins c f (h.up e)
theorem Grow.refl : Grow hid H mu C H mu C := ⟨Up.refl, fun _ _ => rfl⟩
theorem Grow.trans {H2 : Hp} {mu2 : List Addr} {C2 : List Cl} (a : Grow hid H mu C H' mu' C') (b : Grow hid H' mu' C' H2 mu2 C2) : Grow hid H mu C H2 mu2 C2 :=
  ⟨a.up.trans b.up, fun x hx => (b.hid x hx).trans (a.hid x hx)⟩
theorem WOk.rd (w : WOk K cs H mu C hid) {k : Nat} {c : Cl} (h : C[k]? = some c) : ∃ (a : Addr) (o : HO), mu[k]? = some a ∧ Rd H a o ∧ RelC K cs (Zof H mu C hid) mu o c.ct := by
  obtain ⟨a, o, e, r, q⟩ := w.ct k c h
  exact ⟨a, o, e, r.rd, q⟩
theorem rd_ne {H : Hp} {a p : Addr} {o : HO} (r : Rd H a o) (hp : H p = none) : a ≠ p := by
  rcases r with r | ⟨_, r⟩
  · exact ne_of_none r hp
  · exact ne_of_none r hp
theorem rd_upd {H : Hp} {a p : Addr} {o u : HO} (r : Rd H a o) (n : a ≠ p) : Rd (upd H p u) a o := by
  rcases r with r | ⟨x, r⟩
  · exact .inl (by rw [upd_ne n]; exact r)
  · exact .inr ⟨x, by rw [upd_ne n]; exact r⟩
theorem at_upd {H : Hp} {a p : Addr} {o u : HO} {c : Cl} (r : At H a o c) (n : a ≠ p) : At (upd H p u) a o c := by
  rcases r with r | ⟨l, d, r⟩
  · exact .inl (by rw [upd_ne n]; exact r)
  · exact .inr ⟨l, d, rd_upd r n⟩
theorem WOk.nlive (w : WOk K cs H mu C hid) (hp : H p = none) : ¬ liveAt mu C p := fun ⟨k, c, h1, h2⟩ => by
  obtain ⟨b, ob, e1, r, _⟩ := w.rd h2
  rw [h1] at e1
  cases e1
  exact rd_ne r hp rfl
theorem WOk.nhid (w : WOk K cs H mu C hid) (hp : H p = none) : p ∉ hid := fun h => by
  obtain ⟨o, e⟩ := w.hh p h
  rw [hp] at e
  cases e
/-- a new thing that is known for good -/
theorem WOk.newZ (w : WOk K cs H mu C hid) (hp : H p = none) : Grow hid H mu C (upd H p o) mu C ∧ WOk K cs (upd H p o) mu C hid ∧ Zof (upd H p o) mu C hid p = some o := by
  have nl := w.nlive hp
  have nh := w.nhid hp
  have g : Grow hid H mu C (upd H p o) mu C := by
    refine ⟨Up.of (fun b u h => ?_) fun _ _ h => h, fun b hb => upd_ne fun e => nh (e ▸ hb)⟩
    obtain ⟨h1, h2, h3⟩ := zof_some h
    exact zof_of (by rw [upd_ne (ne_of_none h1 hp)]; exact h1) h2 h3
  refine ⟨g, ⟨w.len, w.inj, fun k c h => ?_, w.hc, fun b hb => ?_⟩, zof_of upd_same nl nh⟩
  · obtain ⟨b, ob, e1, e3, r⟩ := w.ct k c h
    have hb := rd_ne e3.rd hp
    exact ⟨b, ob, e1, at_upd e3 hb, r.up g.up⟩
  · rw [upd_ne (show b ≠ p from fun e => nh (e ▸ hb))]
    exact w.hh b hb
/-- a new hidden object -/
theorem WOk.newH (w : WOk K cs H mu C hid) (hp : H p = none) : Grow hid H mu C (upd H p o) mu C ∧ Up (Zof H mu C hid) mu (Zof (upd H p o) mu C (p :: hid)) mu ∧ WOk K cs (upd H p o) mu C (p :: hid) := by
  have nl := w.nlive hp
  have nh := w.nhid hp
  have u : Up (Zof H mu C hid) mu (Zof (upd H p o) mu C (p :: hid)) mu := by
    refine Up.of (fun b u h => ?_) fun _ _ h => h
    obtain ⟨h1, h2, h3⟩ := zof_some h
    have hb := ne_of_none h1 hp
    exact zof_of (by rw [upd_ne hb]; exact h1) h2 fun z => (List.mem_cons.mp z).elim hb h3
  refine ⟨(w.newZ hp).1, u, ⟨w.len, w.inj, fun k c h => ?_, fun k a h z => ?_, fun b hb => ?_⟩⟩
  · obtain ⟨b, ob, e1, e3, r⟩ := w.ct k c h
    have hb := rd_ne e3.rd hp
    exact ⟨b, ob, e1, at_upd e3 hb, r.up u⟩
  · rcases List.mem_cons.mp z with z | z
    · subst z
      have hk : k < C.length := by rw [← w.len]; exact (List.getElem?_eq_some_iff.mp h).1
      obtain ⟨b, ob, e1, e3, _⟩ := w.rd (k := k) (c := C[k]) (by simp [hk])
      rw [h] at e1
      cases e1
      exact rd_ne e3 hp rfl
    · exact w.hc k a h z
  · rcases List.mem_cons.mp hb with e | hb
    · subst e
      exact ⟨o, upd_same⟩
    · rw [upd_ne (show b ≠ p from fun e => nh (e ▸ hb))]
      exact w.hh b hb
/-- the hidden object changes -/
theorem WOk.setH (w : WOk K cs H mu C (p :: hid)) (hn : p ∉ hid) : Up (Zof H mu C (p :: hid)) mu (Zof (upd H p o) mu C (p :: hid)) mu ∧ WOk K cs (upd H p o) mu C (p :: hid) ∧ ∀ a ∈ hid, (upd H p o) a = H a := by
  have u : Up (Zof H mu C (p :: hid)) mu (Zof (upd H p o) mu C (p :: hid)) mu := by
    refine Up.of (fun b u h => ?_) fun _ _ h => h
    obtain ⟨h1, h2, h3⟩ := zof_some h
    have hb : b ≠ p := fun e => h3 (e ▸ List.mem_cons_self)
    exact zof_of (by rw [upd_ne hb]; exact h1) h2 h3
  refine ⟨u, ⟨w.len, w.inj, fun k c h => ?_, w.hc, fun b hb => ?_⟩, fun b hb => upd_ne fun e => hn (e ▸ hb)⟩
  · obtain ⟨b, ob, e1, e3, r⟩ := w.ct k c h
    have hb : b ≠ p := fun e => w.hc k b e1 (e ▸ List.mem_cons_self)
    exact ⟨b, ob, e1, at_upd e3 hb, r.up u⟩
  · by_cases e : b = p
    · subst e
      exact ⟨o, upd_same⟩
    · rw [upd_ne e]
      exact w.hh b hb
/-- the hidden object is shown: for good -/
theorem WOk.showZ (w : WOk K cs H mu C (p :: hid)) (hn : p ∉ hid) (hp : H p = some o) : Up (Zof H mu C (p :: hid)) mu (Zof H mu C hid) mu ∧ WOk K cs H mu C hid ∧ Zof H mu C hid p = some o := by
  have u : Up (Zof H mu C (p :: hid)) mu (Zof H mu C hid) mu := by
    refine Up.of (fun b u h => ?_) fun _ _ h => h
    obtain ⟨h1, h2, h3⟩ := zof_some h
    exact zof_of h1 h2 fun z => h3 (List.mem_cons_of_mem _ z)
  have nl : ¬ liveAt mu C p := fun ⟨k, c, h1, _⟩ => w.hc k p h1 List.mem_cons_self
  refine ⟨u, ⟨w.len, w.inj, fun k c h => ?_, fun k a h z => w.hc k a h (List.mem_cons_of_mem _ z), fun b hb => w.hh b (List.mem_cons_of_mem _ hb)⟩, zof_of hp nl hn⟩
  obtain ⟨b, ob, e1, e3, r⟩ := w.ct k c h
  exact ⟨b, ob, e1, e3, r.up u⟩
theorem get_app {α : Type} {l : List α} {x y : α} {k : Nat} (h : (l ++ [x])[k]? = some y) : (k < l.length ∧ l[k]? = some y) ∨ (k = l.length ∧ y = x) := by
  by_cases hk : k < l.length
  · rw [List.getElem?_append_left hk] at h
    exact .inl ⟨hk, h⟩
  · have hk' : k = l.length := by
      have := (List.getElem?_eq_some_iff.mp h).1
      simp at this
      omega
    subst hk'
    rw [List.getElem?_concat_length] at h
    exact .inr ⟨rfl, (Option.some.inj h).symm⟩
/-- an object that none of the world names becomes a live one: it was new, or hidden -/
theorem WOk.addC (w : WOk K cs H mu C hid) (hp : H p = some o) (hn : p ∉ hid) (nm : p ∉ mu) (nz : ∀ (a : Addr) (u : HO), Zof H mu C (p :: hid) a = some u → True) {c : Ct} (hc : RelC K cs (Zof H mu C (p :: hid)) mu o c)
    (old : ∀ (k : Nat) (c : Cl), C[k]? = some c → ∃ (a : Addr) (o : HO), mu[k]? = some a ∧ At H a o c ∧ RelC K cs (Zof H mu C (p :: hid)) mu o c.ct) :
    Up (Zof H mu C (p :: hid)) mu (Zof H (mu ++ [p]) (C ++ [⟨true, c⟩]) hid) (mu ++ [p]) ∧ WOk K cs H (mu ++ [p]) (C ++ [⟨true, c⟩]) hid := by
  have gl : ∀ (k : Nat) (b : Addr), mu[k]? = some b → (mu ++ [p])[k]? = some b := fun k b h => by
    rw [List.getElem?_append_left (List.getElem?_eq_some_iff.mp h).1]
    exact h
  have u : Up (Zof H mu C (p :: hid)) mu (Zof H (mu ++ [p]) (C ++ [⟨true, c⟩]) hid) (mu ++ [p]) := by
    refine Up.of (fun b u h => ?_) gl
    obtain ⟨h1, h2, h3⟩ := zof_some h
    refine zof_of h1 (fun ⟨k, c', e1, e2⟩ => ?_) fun z => h3 (List.mem_cons_of_mem _ z)
    rcases get_app e1 with ⟨hk, e1⟩ | ⟨hk, e1⟩
    · rcases get_app e2 with ⟨_, e2⟩ | ⟨hk2, _⟩
      · exact h2 ⟨k, c', e1, e2⟩
      · have := w.len
        omega
    · exact h3 (e1 ▸ List.mem_cons_self)
  refine ⟨u, ⟨by simp [w.len], fun i j b c1 d1 h1 h2 h3 h4 hl => ?_, fun k c1 h => ?_, fun k a h => ?_, w.hh⟩⟩
  · have no : ∀ (i : Nat) (b : Addr), mu[i]? = some b → b ≠ p := fun i b h e => nm (e ▸ List.mem_of_getElem? h)
    rcases get_app h1 with ⟨hi, h1⟩ | ⟨hi, h1⟩ <;> rcases get_app h2 with ⟨hj, h2⟩ | ⟨hj, h2⟩
    · have h3' : C[i]? = some c1 := by rw [List.getElem?_append_left (by rw [← w.len]; exact hi)] at h3; exact h3
      have h4' : C[j]? = some d1 := by rw [List.getElem?_append_left (by rw [← w.len]; exact hj)] at h4; exact h4
      exact w.inj i j b c1 d1 h1 h2 h3' h4' hl
    · exact absurd h2 (no i b h1)
    · exact absurd h1 (no j b h2)
    · omega
  · rcases get_app h with ⟨hk, h⟩ | ⟨hk, h⟩
    · obtain ⟨b, ob, e1, e3, r⟩ := old k c1 h
      exact ⟨b, ob, gl k b e1, e3, r.up u⟩
    · subst h
      refine ⟨p, o, ?_, .inl hp, hc.up u⟩
      rw [hk, ← w.len, List.getElem?_concat_length]
  · rcases get_app h with ⟨_, h⟩ | ⟨_, h⟩
    · exact w.hc k a h
    · rw [h]
      exact hn
/-- a hidden object becomes a live one -/
theorem WOk.showC (w : WOk K cs H mu C (p :: hid)) (hn : p ∉ hid) (hp : H p = some o) {c : Ct} (hc : RelC K cs (Zof H mu C (p :: hid)) mu o c) :
    Up (Zof H mu C (p :: hid)) mu (Zof H (mu ++ [p]) (C ++ [⟨true, c⟩]) hid) (mu ++ [p]) ∧ WOk K cs H (mu ++ [p]) (C ++ [⟨true, c⟩]) hid :=
  WOk.addC (w.showZ hn hp).2.1 hp hn (fun h => by
    obtain ⟨k, e⟩ := List.getElem?_of_mem h
    exact w.hc k p e List.mem_cons_self) (fun _ _ _ => trivial) hc w.ct
/-- a new mutable object -/
theorem WOk.newC (w : WOk K cs H mu C hid) (hp : H p = none) {c : Ct} (hc : RelC K cs (Zof H mu C hid) mu o c) : Grow hid H mu C (upd H p o) (mu ++ [p]) (C ++ [⟨true, c⟩]) ∧ WOk K cs (upd H p o) (mu ++ [p]) (C ++ [⟨true, c⟩]) hid := by
  have nh := w.nhid hp
  obtain ⟨_, u1, w1⟩ := w.newH (o := o) hp
  obtain ⟨u2, w2⟩ := w1.showC nh upd_same (hc.up u1)
  exact ⟨⟨u1.trans u2, fun b hb => upd_ne fun e => nh (e ▸ hb)⟩, w2⟩
/-- a mutable object changes -/
theorem WOk.setC (w : WOk K cs H mu C hid) {k : Nat} {c c' : Ct} (hk : C[k]? = some ⟨true, c⟩) (ha : mu[k]? = some a) (hc : RelC K cs (Zof H mu C hid) mu o c') : Grow hid H mu C (upd H a o) mu (C.set k ⟨true, c'⟩) ∧ WOk K cs (upd H a o) mu (C.set k ⟨true, c'⟩) hid := by
  have hkl : k < C.length := (List.getElem?_eq_some_iff.mp hk).1
  have lv : ∀ b, liveAt mu (C.set k ⟨true, c'⟩) b → liveAt mu C b := fun b => by
    rintro ⟨j, d, h1, h2⟩
    by_cases hj : k = j
    · subst hj
      exact ⟨k, c, h1, hk⟩
    · rw [List.getElem?_set_ne hj] at h2
      exact ⟨j, d, h1, h2⟩
  have g : Grow hid H mu C (upd H a o) mu (C.set k ⟨true, c'⟩) := by
    refine ⟨Up.of (fun b u h => ?_) fun _ _ h => h, fun b hb => upd_ne fun e => w.hc k a ha (e ▸ hb)⟩
    obtain ⟨h1, h2, h3⟩ := zof_some h
    have hb : b ≠ a := fun e => h2 (e ▸ ⟨k, c, ha, hk⟩)
    exact zof_of (by rw [upd_ne hb]; exact h1) (fun z => h2 (lv b z)) h3
  refine ⟨g, ⟨by simp [w.len], fun i j b c1 d1 h1 h2 h3 h4 hl => ?_, fun j c1 h => ?_, w.hc, fun b hb => by rw [g.hid b hb]; exact w.hh b hb⟩⟩
  · have back : ∀ (i : Nat) (c1 : Cl), (C.set k ⟨true, c'⟩)[i]? = some c1 → ∃ c2, C[i]? = some c2 ∧ (c1.live = true → c2.live = true) := fun i c1 h => by
      by_cases hi : k = i
      · subst hi
        exact ⟨_, hk, fun _ => rfl⟩
      · rw [List.getElem?_set_ne hi] at h
        exact ⟨c1, h, fun z => z⟩
    obtain ⟨c2, e1, l1⟩ := back i c1 h3
    obtain ⟨d2, e2, _⟩ := back j d1 h4
    exact w.inj i j b c2 d2 h1 h2 e1 e2 (l1 hl)
  · by_cases hj : k = j
    · subst hj
      rw [List.getElem?_set_self hkl] at h
      cases h
      exact ⟨a, o, ha, .inl upd_same, hc.up g.up⟩
    · rw [List.getElem?_set_ne hj] at h
      obtain ⟨b, ob, e1, e3, r⟩ := w.ct j c1 h
      have hb : b ≠ a := fun e => by
        subst e
        exact hj (w.inj k j b _ c1 ha e1 hk h rfl)
      exact ⟨b, ob, e1, at_upd e3 hb, r.up g.up⟩
/-- a mutable object is frozen -/
theorem WOk.frzC (w : WOk K cs H mu C hid) {k : Nat} {c : Cl} (hk : C[k]? = some c) : Grow hid H mu C H mu (C.set k ⟨false, c.ct⟩) ∧ WOk K cs H mu (C.set k ⟨false, c.ct⟩) hid := by
  have hkl : k < C.length := (List.getElem?_eq_some_iff.mp hk).1
  have lv : ∀ b, liveAt mu (C.set k ⟨false, c.ct⟩) b → liveAt mu C b := fun b => by
    rintro ⟨j, d, h1, h2⟩
    by_cases hj : k = j
    · subst hj
      rw [List.getElem?_set_self hkl] at h2
      cases h2
    · rw [List.getElem?_set_ne hj] at h2
      exact ⟨j, d, h1, h2⟩
  have g : Grow hid H mu C H mu (C.set k ⟨false, c.ct⟩) := by
    refine ⟨Up.of (fun b u h => ?_) fun _ _ h => h, fun _ _ => rfl⟩
    obtain ⟨h1, h2, h3⟩ := zof_some h
    exact zof_of h1 (fun z => h2 (lv b z)) h3
  have back : ∀ (i : Nat) (c1 : Cl), (C.set k ⟨false, c.ct⟩)[i]? = some c1 → ∃ c2, C[i]? = some c2 ∧ (c1.live = true → c2.live = true) ∧ c2.ct = c1.ct := fun i c1 h => by
    by_cases hi : k = i
    · subst hi
      rw [List.getElem?_set_self hkl] at h
      cases h
      exact ⟨_, hk, (fun z => by cases z), rfl⟩
    · rw [List.getElem?_set_ne hi] at h
      exact ⟨c1, h, fun z => z, rfl⟩
  refine ⟨g, ⟨by simp [w.len], fun i j b c1 d1 h1 h2 h3 h4 hl => ?_, fun j c1 h => ?_, w.hc, w.hh⟩⟩
  · obtain ⟨c2, e1, l1, _⟩ := back i c1 h3
    obtain ⟨d2, e2, _, _⟩ := back j d1 h4
    exact w.inj i j b c2 d2 h1 h2 e1 e2 (l1 hl)
  · obtain ⟨c2, e, l, ec⟩ := back j c1 h
    obtain ⟨b, ob, e1, e3, r⟩ := w.ct j c2 e
    rw [ec] at r
    refine ⟨b, ob, e1, ?_, r.up g.up⟩
    rcases e3 with z | ⟨z1, z2, z3⟩
    · exact .inl z
    · refine .inr ⟨?_, by rw [← ec]; exact z2, z3⟩
      cases q : c1.live with
      | false => rfl
      | true =>
        rw [l q] at z1
        cases z1
/-- the last mutable objects are forgotten -/
theorem WOk.takeC (w : WOk K cs H mu C hid) (n : Nat) (hk : ∀ (k : Nat) (c : Cl) (o : HO), k < n → C[k]? = some c → RelC K cs (Zof H mu C hid) mu o c.ct → RelC K cs (Zof H (mu.take n) (C.take n) hid) (mu.take n) o c.ct) :
    WOk K cs H (mu.take n) (C.take n) hid := by
  have tk : ∀ {α : Type} {l : List α} {k : Nat} {x : α}, (l.take n)[k]? = some x → k < n ∧ l[k]? = some x := fun {α l k x} h => by
    rw [List.getElem?_take] at h
    split at h
    · exact ⟨by assumption, h⟩
    · cases h
  refine ⟨by simp [w.len], fun i j b c1 d1 h1 h2 h3 h4 hl => ?_, fun k c h => ?_, fun k a h => w.hc k a (tk h).2, w.hh⟩
  · exact w.inj i j b c1 d1 (tk h1).2 (tk h2).2 (tk h3).2 (tk h4).2 hl
  · obtain ⟨hn, h⟩ := tk h
    obtain ⟨b, ob, e1, e3, r⟩ := w.ct k c h
    exact ⟨b, ob, by rw [List.getElem?_take, if_pos hn]; exact e1, e3, hk k c ob hn h r⟩
theorem zof_take {n : Nat} : ∀ a o, Zof H mu C hid a = some o → Zof H (mu.take n) (C.take n) hid a = some o := fun a o h => by
  obtain ⟨h1, h2, h3⟩ := zof_some h
  refine zof_of h1 (fun ⟨k, c, e1, e2⟩ => h2 ⟨k, c, ?_, ?_⟩) h3
  · rw [List.getElem?_take] at e1
    split at e1
    · exact e1
    · cases e1
  · rw [List.getElem?_take] at e2
    split at e2
    · exact e2
    · cases e2
end
end Py
namespace Py
open PySem Spec PyProof.Rows L2
/-! ### results -/
inductive Rs (α : Type) where
  | ok (a : α) (C : List Cl) | er (c : Nat) (l : List U) (C : List Cl) | no
def Rs.bind {α β : Type} (r : Rs α) (f : α → List Cl → Rs β) : Rs β := match r with
  | .ok a C => f a C
  | .er c l C => .er c l C
  | .no => .no
def lift {α : Type} (o : Option α) (C : List Cl) : Rs α := match o with
  | some a => .ok a C
  | none => .no
abbrev Sl := List (Option U)
/-- a statement's outcome -/
inductive Ou where
  | nx (r : Sl) (C : List Cl) | rt (u : U) (C : List Cl) | bk (r : Sl) (C : List Cl) | ct (r : Sl) (C : List Cl) | er (c : Nat) (l : List U) (C : List Cl) | no
def Rs.out {α : Type} (r : Rs α) (f : α → List Cl → Ou) : Ou := match r with
  | .ok a C => f a C
  | .er c l C => .er c l C
  | .no => .no
/-! ### syntax -/
inductive BOp where
  | add | sub | mul | mod | fdiv | pow
  deriving DecidableEq
inductive COp where
  | lt | le | gt | ge | eq | ne | isin | notin | isN | notN
  deriving DecidableEq
/-- built-in functions by name -/
inductive Bi where
  | len | abs | min2 | max2 | minL | maxL | sum | all | any | sorted | list | tuple | int | divmod
  deriving DecidableEq
/-- built-in methods -/
inductive Me where
  | append | pop | popAt | index | get1 | get2
  deriving DecidableEq
mutual
inductive E where
  | var (i : Nat) | frz (i : Nat) | cI (i : Int) | cS (x : Str) | cB (b : Bool) | cN | glo (j : Nat)
  | bin (o : BOp) (a b : E) | neg (a : E) | cmp (o : COp) (a b : E) | chain (o p : COp) (a b c : E)
  | and (a b : E) | or (a b : E) | not (a : E) | ife (t : T) (a b : E)
  | tup (es : Es) | lst (m : Bool) (es : Es) | dnew (m t : Bool)
  | ix (a i : E) | sl (a : E) (lo hi : Eo) | rev (a : E) | fld (a : E) (f : Str)
  | call (j : Nat) (es : Es) | callK (j : Nat) (es ks : Es) (p : List Nat) | mk (m : Bool) (c : Nat) (es : Es)
  | bi (b : Bi) (m : Bool) (es : Es) | isi (a : E) (ts : List String) | rngL (m : Bool) (it : I)
  | me (b : Me) (a : E) (es : Es)
  | comp (m : Bool) (g : G) (it : I) (t : T) (e : E) (vs : List Nat)
  | comp2 (m : Bool) (g : G) (it : I) (t : T) (g1 : G) (it1 : I) (t1 : T) (e : E) (vs vs1 : List Nat)
inductive Es where
  | nil | cons (e : E) (es : Es)
/-- a part of a slice -/
inductive Eo where
  | no | of (e : E)
/-- tests -/
inductive T where
  | tt | val (e : E) | cmp (o : COp) (a b : E) | chain (o p : COp) (a b c : E) | and (s t : T) | or (s t : T) | not (t : T) | tru (e : E)
/-- what is walked -/
inductive I where
  | seq (e : E) | rng1 (a : E) | rng2 (a b : E) | rng3 (a b c : E) | enum (e : E) | keys (e : E) | zip (a b : E)
/-- targets -/
inductive G where
  | nm (i : Nat) | sub (o i : E) | fld (o : E) (f : Str) | tp (gs : Gs)
inductive Gs where
  | nil | cons (g : G) (gs : Gs)
end
mutual
inductive S where
  | asg (g : G) (e : E) | aug (i : Nat) (o : BOp) (e : E) | augS (o i : E) (p : BOp) (e : E)
  | ex (e : E) | ret (e : E) | retN | ife (t : T) (a b : Ss) | for_ (g : G) (it : I) (b : Ss) | while_ (t : T) (b : Ss)
  | pass | brk | cont | raise (c : Nat) (es : Es) | doc
inductive Ss where
  | nil | cons (s : S) (ss : Ss)
end
def Gs.len : Gs → Nat
  | .nil => 0
  | .cons _ gs => gs.len + 1
/-! ### data -/
def ofCt : Ct → U
  | .lst l => .lst l
  | .dic t l => .dic t l
  | .ins c l => .row c l
def cell (C : List Cl) (k : Nat) : U := match C[k]? with
  | some c => ofCt c.ct
  | none => .cel k
def rd (C : List Cl) : U → U
  | .cel k => cell C k
  | .ktup l => .tup l
  | .klst l => .lst l
  | u => u
/-- .. but not the top's -/
def rdw (C : List Cl) : U → U
  | .cel k => cell C k
  | u => u
mutual
def pd : U → Option PyData
  | .non => some .none
  | .bl b => some (.bool b)
  | .int i => some (.int i)
  | .str x => some (.str x)
  | .tup l => (pds l).map .tuple
  | .ktup l => (pds l).map .tuple
  | .lst l => (pds l).map .list
  | .klst l => (pds l).map .list
  | .dic _ _ => none
  | .row _ _ => none
  | .cel _ => none
def pds : List U → Option (List PyData)
  | [] => some []
  | u :: us => match pd u, pds us with
    | some d, some ds => some (d :: ds)
    | _, _ => none
end
def eqD (d e : PyData) : Option Bool := if SeqAt.shaped d = true ∧ SeqAt.shaped e = true then some (PyData.eqv d e) else none
def eqU (C : List Cl) (a b : U) : Option Bool := match a, b with
  | .int i, .int j => some (decide (i = j))
  | a, b => match pd (rd C a), pd (rd C b) with
    | some d, some e => eqD d e
    | _, _ => none
/-- two keys are one -/
def keq : U → U → Bool
  | .int i, .int j => decide (i = j)
  | .str x, .str y => decide (x = y)
  | .tup x, .tup y => (match keysOf x, keysOf y with
    | some p, some q => decide (p = q)
    | _, _ => false)
  | _, _ => false
/-- u may be a key of a dict of kind t -/
def kind (t : Bool) : U → Bool
  | .int _ => !t
  | .str _ => !t
  | .tup l => t && (keysOf l).isSome
  | _ => false
def dget (l : List (U × U)) (k : U) : Option U := (l.find? fun p => keq p.1 k).map (·.2)
def dput (l : List (U × U)) (k v : U) : List (U × U) :=
  if (l.any fun p => keq p.1 k) = true then l.map (fun p => if keq p.1 k = true then (p.1, v) else p) else l ++ [(k, v)]
def big : Nat := 1000000
def mulOk (i j : Int) : Bool := decide (i.natAbs.log2 + j.natAbs.log2 < 1000000)
/-- lists that were made -/
def addL (C : List Cl) (a b : U) : Option U := match rdw C a, rdw C b with
  | .lst x, .lst y => if x.length + y.length ≤ big then some (.lst (x ++ y)) else none
  | _, _ => none
def addU (C : List Cl) (a b : U) : Option U := match rd C a, rd C b with
  | .int i, .int j => some (.int (i + j))
  | .tup x, .tup y => if x.length + y.length ≤ big then some (if x.isEmpty = true then b else if y.isEmpty = true then a else .tup (x ++ y)) else none
  | _, _ => addL C a b
def subU (a b : U) : Option U := match a, b with
  | .int i, .int j => some (.int (i - j))
  | _, _ => none
def mulL (C : List Cl) (a b : U) : Option U := match rdw C a, b with
  | .lst x, .int k => if x.length ≤ 1000 ∧ 0 ≤ k ∧ k ≤ 1000 then some (.lst (List.replicate k.toNat x).flatten) else none
  | _, _ => none
def mulU (C : List Cl) (a b : U) : Option U := match rd C a, b with
  | .int i, .int j => if mulOk i j = true then some (.int (i * j)) else none
  | .tup x, .int k => if x.length ≤ 1000 ∧ 0 < x.length ∧ 2 ≤ k ∧ k ≤ 1000 then some (.tup (List.replicate k.toNat x).flatten) else none
  | _, _ => mulL C a b
def modU (a b : U) : Option U := match a, b with
  | .int i, .int j => if 0 < j then some (.int (i % j)) else none
  | _, _ => none
def fdivU (a b : U) : Option U := match a, b with
  | .int i, .int j => if 0 < j ∧ j.natAbs.log2 < 9000 then some (.int (i / j)) else none
  | _, _ => none
def powU (a b : U) : Option U := match a, b with
  | .int i, .int j => if 0 ≤ j ∧ j ≤ 1000000 ∧ i.natAbs < 2 ^ 64 then some (.int (i ^ j.toNat)) else none
  | _, _ => none
def binU (C : List Cl) (o : BOp) (a b : U) : Option U := match o with
  | .add => addU C a b
  | .sub => subU a b
  | .mul => mulU C a b
  | .mod => modU a b
  | .fdiv => fdivU a b
  | .pow => powU a b
def flatU : U → Bool
  | .non => true
  | .bl _ => true
  | .int _ => true
  | .str _ => true
  | _ => false
def toV : U → V
  | .bl b => .bl b
  | .int i => .int i
  | .str x => .str x
  | _ => .non
def inU (C : List Cl) (a b : U) : Option Bool := match rd C b with
  | .lst l => (match pd (rd C a), pds l with
    | some d, some ds => if SeqAt.shaped d = true ∧ SeqAt.shaped (.list ds) = true then some (ds.any fun z => PyData.eqv z d) else none
    | _, _ => none)
  | .tup l => if flatU a = true ∧ l.all flatU = true then some (inV (toV a) (l.map toV)) else none
  | .dic t l => if kind t a = true then some (dget l a).isSome else none
  | _ => none
def ordU (f : Int → Int → Bool) (a b : U) : Option Bool := match a, b with
  | .int i, .int j => some (f i j)
  | _, _ => none
def cmpU (C : List Cl) (o : COp) (a b : U) : Option Bool := match o with
  | .lt => ordU (fun i j => decide (i < j)) a b
  | .le => ordU (fun i j => decide (i ≤ j)) a b
  | .gt => ordU (fun i j => decide (j < i)) a b
  | .ge => ordU (fun i j => decide (j ≤ i)) a b
  | .eq => eqU C a b
  | .ne => (eqU C a b).map (!·)
  | .isin => inU C a b
  | .notin => (inU C a b).map (!·)
  | .isN => (match a, b with | .non, .non => some true | _, .non => some false | _, _ => none)
  | .notN => (match a, b with | .non, .non => some false | _, .non => some true | _, _ => none)
def ixU (C : List Cl) (a i : U) : Option U := match rd C a, i with
  | .tup l, .int k => atI l k
  | .lst l, .int k => atI l k
  | .dic t l, k => if kind t k = true then dget l k else none
  | _, _ => none
def cutU (xs : List U) (lo hi : Option Int) : List U := (xs.drop (HT.sIx xs.length 0 lo)).take (HT.sIx xs.length xs.length hi - HT.sIx xs.length 0 lo)
def slU (C : List Cl) (a : U) (lo hi : Option Int) : Option U := match rd C a with
  | .tup l => if HT.sIx l.length 0 lo = 0 ∧ HT.sIx l.length l.length hi = l.length then some a else some (.tup (cutU l lo hi))
  | .lst l => some (.lst (cutU l lo hi))
  | _ => none
def intsU : List U → Option (List Int)
  | [] => some []
  | .int i :: us => (intsU us).map (i :: ·)
  | _ => none
def boolsU : List U → Option (List Bool)
  | [] => some []
  | .bl b :: us => (boolsU us).map (b :: ·)
  | _ => none
def insI (x : Int) : List Int → List Int
  | [] => [x]
  | y :: ys => if x ≤ y then x :: y :: ys else y :: insI x ys
def sortI : List Int → List Int
  | [] => []
  | x :: xs => insI x (sortI xs)
def minI : List Int → Option Int
  | [] => none
  | x :: xs => some (xs.foldl (fun m y => if y < m then y else m) x)
def maxI : List Int → Option Int
  | [] => none
  | x :: xs => some (xs.foldl (fun m y => if m < y then y else m) x)
def biU (C : List Cl) (b : Bi) (us : List U) : Option U := match b, us with
  | .len, [x] => (match rd C x with
    | .tup l => some (.int l.length)
    | .lst l => some (.int l.length)
    | _ => none)
  | .abs, [.int i] => some (.int (if i < 0 then -i else i))
  | .min2, [.int i, .int j] => some (.int (if j < i then j else i))
  | .max2, [.int i, .int j] => some (.int (if j > i then j else i))
  | .minL, [x] => (match rd C x with
    | .lst l => ((intsU l).bind minI).map .int
    | _ => none)
  | .maxL, [x] => (match rd C x with
    | .lst l => ((intsU l).bind maxI).map .int
    | _ => none)
  | .sum, [x] => (match rd C x with
    | .lst l => (intsU l).map fun ns => .int ns.sum
    | .tup l => (intsU l).map fun ns => .int ns.sum
    | _ => none)
  | .all, [x] => (match rd C x with
    | .lst l => (boolsU l).map fun bs => .bl (bs.all id)
    | _ => none)
  | .any, [x] => (match rd C x with
    | .lst l => (boolsU l).map fun bs => .bl (bs.any id)
    | _ => none)
  | .sorted, [x] => (match rd C x with
    | .lst l => (intsU l).map fun ns => .lst ((sortI ns).map .int)
    | _ => none)
  | .list, [x] => (match rd C x with
    | .lst l => some (.lst l)
    | .tup l => some (.lst l)
    | _ => none)
  | .tuple, [x] => (match rd C x with
    | .lst l => some (.tup l)
    | .tup _ => some x
    | _ => none)
  | .int, [.int i] => some (.int i)
  | .divmod, [.int i, .int j] => if 0 < j ∧ j.natAbs.log2 < 9000 then some (.tup [.int (i / j), .int (i % j)]) else none
  | _, _ => none
/-- a name of a built-in type that a datum has -/
def tyOf : U → Option String
  | .non => some "NoneType"
  | .bl _ => some "bool"
  | .int _ => some "int"
  | .str _ => some "str"
  | .tup _ => some "tuple"
  | .ktup _ => some "tuple"
  | .lst _ => some "list"
  | .klst _ => some "list"
  | .dic false _ => some "dict"
  | _ => none
def isiU (C : List Cl) (a : U) (ts : List String) : Option Bool := (tyOf (rd C a)).map fun n => ts.any fun t => n == t || (n == "bool" && t == "int")
/-- the place of a field among the names -/
def fieldAt : List Str → Str → Option Nat
  | [], _ => none
  | x :: xs, f => if x = f then some 0 else (fieldAt xs f).map (· + 1)
structure Gm where
  con : Nat → Option U
  cf : Nat → List U → List Cl → Rs U
  fields : Nat → List Str
  ini : Nat → Option Nat
  wf : Nat
/-! ### newly made lists and dicts: data, or mutable -/
def alloc (m : Bool) (u : U) (C : List Cl) : Rs U := match m, u with
  | false, u => .ok u C
  | true, .lst l => .ok (.cel C.length) (C ++ [⟨true, .lst l⟩])
  | true, .dic t l => .ok (.cel C.length) (C ++ [⟨true, .dic t l⟩])
  | true, _ => .no
def frzC (k : Nat) (C : List Cl) : List Cl := match C[k]? with
  | some c => C.set k ⟨false, c.ct⟩
  | none => C
/-- what a for walks, as a list; a mutable one is frozen -/
def walkU (u : U) (C : List Cl) : Rs (List U) := match u with
  | .cel k => (match C[k]? with
    | some ⟨_, .lst l⟩ => .ok l (frzC k C)
    | _ => .no)
  | .lst l => .ok l C
  | .klst l => .ok l C
  | .tup l => .ok l C
  | .ktup l => .ok l C
  | _ => .no
/-- .. a list only -/
def walkL (u : U) (C : List Cl) : Rs (List U) := match u with
  | .tup _ => .no
  | .ktup _ => .no
  | u => walkU u C
def enumU (l : List U) : List U := (List.range l.length).zipWith (fun i u => .tup [.int (i : Nat), u]) l
def rngU (a b : Int) : List U := (List.range (b - a).toNat).map fun i => .int (a + (i : Nat))
def rngOk (a b : Int) : Bool := decide (-(2 ^ 62) ≤ a ∧ a < 2 ^ 62 ∧ -(2 ^ 62) ≤ b ∧ b < 2 ^ 62)
/-- a range by a step of -1 -/
def rngDown (a b : Int) : List U := (List.range (a - b).toNat).map fun i => .int (a - (i : Nat))
def wipeU (r : Sl) : List Nat → Sl
  | [] => r
  | v :: vs => (wipeU r vs).set v none
def forGo (as_ : U → Sl → List Cl → Rs Sl) (body : Sl → List Cl → Ou) : List U → Sl → List Cl → Ou
  | [], r, C => .nx r C
  | u :: us, r, C => (as_ u r C).out fun r1 C1 => match body r1 C1 with
    | .nx r2 C2 => forGo as_ body us r2 C2
    | .ct r2 C2 => forGo as_ body us r2 C2
    | .bk r2 C2 => .nx r2 C2
    | .rt u C2 => .rt u C2
    | .er c l C2 => .er c l C2
    | .no => .no
def whileGo (test : Sl → List Cl → Rs Bool) (body : Sl → List Cl → Ou) : Nat → Sl → List Cl → Ou
  | 0, _, _ => .no
  | n + 1, r, C => (test r C).out fun b C1 => if b = true then (match body r C1 with
    | .nx r2 C2 => whileGo test body n r2 C2
    | .ct r2 C2 => whileGo test body n r2 C2
    | .bk r2 C2 => .nx r2 C2
    | .rt u C2 => .rt u C2
    | .er c l C2 => .er c l C2
    | .no => .no) else .nx r C1
/-- a comprehension's turns; nothing may be raised in them -/
def compGo (as_ : U → Sl → List Cl → Rs Sl) (test : Sl → List Cl → Rs Bool) (el : Sl → List Cl → Rs U) : List U → List U → Sl → List Cl → Rs (List U)
  | [], acc, _, C => .ok acc C
  | u :: us, acc, r, C => match as_ u r C with
    | .ok r1 C1 => (match test r1 C1 with
      | .ok true C2 => (match el r1 C2 with
        | .ok v C3 => if acc.length < big then compGo as_ test el us (acc ++ [v]) r C3 else .no
        | _ => .no)
      | .ok false C2 => compGo as_ test el us acc r C2
      | _ => .no)
    | _ => .no
/-- two fors -/
def comp2Go (as_ : U → Sl → List Cl → Rs Sl) (test : Sl → List Cl → Rs Bool) (inner : List U → Sl → List Cl → Rs (List U)) : List U → List U → Sl → List Cl → Rs (List U)
  | [], acc, _, C => .ok acc C
  | u :: us, acc, r, C => match as_ u r C with
    | .ok r1 C1 => (match test r1 C1 with
      | .ok true C2 => (match inner acc r1 C2 with
        | .ok acc2 C3 => comp2Go as_ test inner us acc2 r C3
        | _ => .no)
      | .ok false C2 => comp2Go as_ test inner us acc r C2
      | _ => .no)
    | _ => .no
/-- of what type a method is -/
def meK : Me → U → Bool
  | .get1, .dic _ _ => true
  | .get2, .dic _ _ => true
  | .get1, _ => false
  | .get2, _ => false
  | _, .lst _ => true
  | _, _ => false
/-- a method of a mutable list (or dict), or one that only reads -/
def meU (b : Me) (a : U) (us : List U) (C : List Cl) : Rs U := match b, a, us with
  | .append, .cel k, [x] => (match C[k]? with
    | some ⟨true, .lst l⟩ => if l.length < big then .ok .non (C.set k ⟨true, .lst (l ++ [x])⟩) else .no
    | _ => .no)
  | .pop, .cel k, [] => (match C[k]? with
    | some ⟨true, .lst l⟩ => (match l[l.length - 1]? with
      | some y => .ok y (C.set k ⟨true, .lst l.dropLast⟩)
      | none => .no)
    | _ => .no)
  | .popAt, .cel k, [.int i] => (match C[k]? with
    | some ⟨true, .lst l⟩ => if 0 ≤ i ∧ i < 2 ^ 62 then (match l[i.toNat]? with
      | some y => .ok y (C.set k ⟨true, .lst (l.eraseIdx i.toNat)⟩)
      | none => .no) else .no
    | _ => .no)
  | .index, a, [x] => (match rd C a with
    | .lst l => (match pd (.lst l), pd (rd C x) with
      | some (.list ds), some d => if SeqAt.shaped (.list ds) = true ∧ SeqAt.shaped d = true then (match ds.findIdx? (fun z => PyData.eqv z d) with
        | some j => .ok (.int (j : Nat)) C
        | none => .no) else .no
      | _, _ => .no)
    | _ => .no)
  | .get1, a, [k] => (match rd C a with
    | .dic t l => if kind t k = true then .ok ((dget l k).getD .non) C else .no
    | _ => .no)
  | .get2, a, [k, z] => (match rd C a with
    | .dic t l => if kind t k = true then .ok ((dget l k).getD z) C else .no
    | _ => .no)
  | _, _, _ => .no
/-- o[i] = v -/
def setU (o i v : U) (C : List Cl) : Rs Unit := match o with
  | .cel k => (match C[k]?, i with
    | some ⟨true, .lst l⟩, .int j => (match ixN l.length j with
      | some n => .ok () (C.set k ⟨true, .lst (l.set n v)⟩)
      | none => .no)
    | some ⟨true, .dic t l⟩, i => if kind t i = true ∧ l.length < big then .ok () (C.set k ⟨true, .dic t (dput l i v)⟩) else .no
    | _, _ => .no)
  | _ => .no
/-- o.f = v -/
def setF (g : Gm) (o : U) (f : Str) (v : U) (C : List Cl) : Rs Unit := match o with
  | .cel k => (match C[k]? with
    | some ⟨true, .ins c l⟩ => (match fieldAt (g.fields c) f with
      | some n => if n < l.length then .ok () (C.set k ⟨true, .ins c (l.set n v)⟩) else if n = l.length ∧ n < 900 then .ok () (C.set k ⟨true, .ins c (l ++ [v])⟩) else .no
      | none => .no)
    | _ => .no)
  | _ => .no
def getF (g : Gm) (a : U) (f : Str) (C : List Cl) : Option U := match rd C a with
  | .row c l => (fieldAt (g.fields c) f).bind fun n => l[n]?
  | _ => none
def permU (p : List Nat) (us : List U) : Option (List U) := p.mapM fun i => us[i]?
/-! ### evaluation -/
mutual
def evE (g : Gm) : E → Sl → List Cl → Rs U
  | .var i, r, C => (match r[i]? with
    | some (some u) => .ok u C
    | _ => .no)
  | .frz i, r, C => (match r[i]? with
    | some (some (.cel k)) => (match C[k]? with
      | some ⟨b, .lst l⟩ => .ok (.lst l) (C.set k ⟨false, .lst l⟩)
      | some ⟨b, .dic t l⟩ => .ok (.dic t l) (C.set k ⟨false, .dic t l⟩)
      | _ => .no)
    | some (some u) => .ok u C
    | _ => .no)
  | .cI i, _, C => .ok (.int i) C
  | .cS x, _, C => .ok (.str x) C
  | .cB b, _, C => .ok (.bl b) C
  | .cN, _, C => .ok .non C
  | .glo j, _, C => lift (g.con j) C
  | .bin o a b, r, C => (evE g a r C).bind fun x C1 => (evE g b r C1).bind fun y C2 => lift (binU C2 o x y) C2
  | .neg a, r, C => (evE g a r C).bind fun x C1 => (match x with
    | .int i => .ok (.int (-i)) C1
    | _ => .no)
  | .cmp o a b, r, C => (evE g a r C).bind fun x C1 => (evE g b r C1).bind fun y C2 => lift ((cmpU C2 o x y).map .bl) C2
  | .chain o p a b c, r, C => (evE g a r C).bind fun x C1 => (evE g b r C1).bind fun y C2 => (lift (cmpU C2 o x y) C2).bind fun k C3 =>
    if k = true then (evE g c r C3).bind fun z C4 => lift ((cmpU C4 p y z).map .bl) C4 else .ok (.bl false) C3
  | .and a b, r, C => (evE g a r C).bind fun x C1 => (match x with
    | .bl true => evE g b r C1
    | .bl false => .ok (.bl false) C1
    | _ => .no)
  | .or a b, r, C => (evE g a r C).bind fun x C1 => (match x with
    | .bl true => .ok (.bl true) C1
    | .bl false => evE g b r C1
    | _ => .no)
  | .not a, r, C => (evE g a r C).bind fun x C1 => (match x with
    | .bl k => .ok (.bl (!k)) C1
    | _ => .no)
  | .ife t a b, r, C => (evT g t r C).bind fun k C1 => if k = true then evE g a r C1 else evE g b r C1
  | .tup es, r, C => (evEs g es r C).bind fun us C1 => if us.length ≤ big then .ok (.tup us) C1 else .no
  | .lst m es, r, C => (evEs g es r C).bind fun us C1 => if us.length ≤ big then alloc m (.lst us) C1 else .no
  | .dnew m t, _, C => alloc m (.dic t []) C
  | .ix a i, r, C => (evE g a r C).bind fun x C1 => (evE g i r C1).bind fun y C2 => lift (ixU C2 x y) C2
  | .sl a lo hi, r, C => (evE g a r C).bind fun x C1 => (evO g lo r C1).bind fun l C2 => (evO g hi r C2).bind fun h C3 => lift (slU C3 x l h) C3
  | .rev a, r, C => (evE g a r C).bind fun x C1 => (match rd C1 x with
    | .lst l => .ok (.lst l.reverse) C1
    | .tup l => .ok (.tup l.reverse) C1
    | _ => .no)
  | .fld a f, r, C => (evE g a r C).bind fun x C1 => lift (getF g x f C1) C1
  | .call j es, r, C => (evEs g es r C).bind fun us C1 => g.cf j us C1
  | .callK j es ks p, r, C => (evEs g es r C).bind fun us C1 => (evEs g ks r C1).bind fun ws C2 => (match permU p (us ++ ws) with
    | some xs => g.cf j xs C2
    | none => .no)
  | .mk m c es, r, C => (evEs g es r C).bind fun us C1 => (match g.ini c with
    | some j => (g.cf j (.cel C1.length :: us) (C1 ++ [⟨true, .ins c []⟩])).bind fun u C2 => (match u with
      | .non => if m = true then .ok (.cel C1.length) C2 else (match C2[C1.length]? with
        | some ⟨_, .ins c' l⟩ => if c' = c ∧ l.length = (g.fields c).length ∧ C2.length = C1.length + 1 then .ok (.row c l) (C2.take C1.length) else .no
        | _ => .no)
      | _ => .no)
    | none => .no)
  | .bi b m es, r, C => (evEs g es r C).bind fun us C1 => (lift (biU C1 b us) C1).bind fun u C2 => alloc m u C2
  | .isi a ts, r, C => (evE g a r C).bind fun x C1 => lift ((isiU C1 x ts).map .bl) C1
  | .rngL m it, r, C => (evI g it r C).bind fun l C1 => if l.length ≤ 1000000 then alloc m (.lst l) C1 else .no
  | .me b a es, r, C => (evE g a r C).bind fun x C1 => if meK b (rd C1 x) = true then (evEs g es r C1).bind fun us C2 => meU b x us C2 else .no
  | .comp m g' it t e vs, r, C => (evI g it r C).bind fun l C1 =>
    (compGo (fun u r C => evG g g' u r C) (fun r C => evT g t r C) (fun r C => evE g e r C) l [] (wipeU r vs) C1).bind fun us C2 => alloc m (.lst us) C2
  | .comp2 m g' it t g1 it1 t1 e vs vs1, r, C => (evI g it r C).bind fun l C1 =>
    (comp2Go (fun u r C => evG g g' u r C) (fun r C => evT g t r C) (fun acc r C => (evI g it1 r C).bind fun l1 C2 =>
      compGo (fun u r C => evG g g1 u r C) (fun r C => evT g t1 r C) (fun r C => evE g e r C) l1 acc (wipeU r vs1) C2) l [] (wipeU r vs) C1).bind fun us C2 => alloc m (.lst us) C2
def evEs (g : Gm) : Es → Sl → List Cl → Rs (List U)
  | .nil, _, C => .ok [] C
  | .cons e es, r, C => (evE g e r C).bind fun u C1 => (evEs g es r C1).bind fun us C2 => .ok (u :: us) C2
def evO (g : Gm) : Eo → Sl → List Cl → Rs (Option Int)
  | .no, _, C => .ok none C
  | .of e, r, C => (evE g e r C).bind fun u C1 => (match u with
    | .int i => .ok (some i) C1
    | _ => .no)
def evT (g : Gm) : T → Sl → List Cl → Rs Bool
  | .tt, _, C => .ok true C
  | .val e, r, C => (evE g e r C).bind fun u C1 => (match u with
    | .bl b => .ok b C1
    | _ => .no)
  | .cmp o a b, r, C => (evE g a r C).bind fun x C1 => (evE g b r C1).bind fun y C2 => lift (cmpU C2 o x y) C2
  | .chain o p a b c, r, C => (evE g a r C).bind fun x C1 => (evE g b r C1).bind fun y C2 => (lift (cmpU C2 o x y) C2).bind fun k C3 =>
    if k = true then (evE g c r C3).bind fun z C4 => lift (cmpU C4 p y z) C4 else .ok false C3
  | .and s t, r, C => (evT g s r C).bind fun k C1 => if k = true then evT g t r C1 else .ok false C1
  | .or s t, r, C => (evT g s r C).bind fun k C1 => if k = true then .ok true C1 else evT g t r C1
  | .not t, r, C => (evT g t r C).bind fun k C1 => .ok (!k) C1
  | .tru e, r, C => (evE g e r C).bind fun u C1 => (match rd C1 u with
    | .non => .ok false C1
    | .bl b => .ok b C1
    | .int i => .ok (i != 0) C1
    | .lst l => .ok (!l.isEmpty) C1
    | .tup l => .ok (!l.isEmpty) C1
    | _ => .no)
def evI (g : Gm) : I → Sl → List Cl → Rs (List U)
  | .seq e, r, C => (evE g e r C).bind fun u C1 => walkU u C1
  | .rng1 a, r, C => (evE g a r C).bind fun u C1 => (match u with
    | .int i => if rngOk 0 i = true then .ok (rngU 0 i) C1 else .no
    | _ => .no)
  | .rng2 a b, r, C => (evE g a r C).bind fun u C1 => (evE g b r C1).bind fun v C2 => (match u, v with
    | .int i, .int j => if rngOk i j = true then .ok (rngU i j) C2 else .no
    | _, _ => .no)
  | .rng3 a b c, r, C => (evE g a r C).bind fun u C1 => (evE g b r C1).bind fun v C2 => (evE g c r C2).bind fun w C3 => (match u, v, w with
    | .int i, .int j, .int k => if rngOk i j = true ∧ k = -1 then .ok (rngDown i j) C3 else .no
    | _, _, _ => .no)
  | .enum e, r, C => (evE g e r C).bind fun u C1 => (walkL u C1).bind fun l C2 => .ok (enumU l) C2
  | .keys _, _, _ => .no
  | .zip _ _, _, _ => .no
def evG (g : Gm) : G → U → Sl → List Cl → Rs Sl
  | .nm i, u, r, C => if i < r.length then .ok (r.set i (some u)) C else .no
  | .sub o i, u, r, C => (evE g o r C).bind fun x C1 => (evE g i r C1).bind fun y C2 => (setU x y u C2).bind fun _ C3 => .ok r C3
  | .fld o f, u, r, C => (evE g o r C).bind fun x C1 => (setF g x f u C1).bind fun _ C2 => .ok r C2
  | .tp gs, u, r, C => (match rd C u with
    | .tup l => if l.length = gs.len then evGs g gs l r C else .no
    | _ => .no)
def evGs (g : Gm) : Gs → List U → Sl → List Cl → Rs Sl
  | .nil, [], r, C => .ok r C
  | .cons g' gs, u :: us, r, C => (evG g g' u r C).bind fun r1 C1 => evGs g gs us r1 C1
  | _, _, _, _ => .no
end
mutual
def exS (g : Gm) : S → Sl → List Cl → Ou
  | .asg t e, r, C => (evE g e r C).out fun u C1 => (evG g t u r C1).out fun r1 C2 => .nx r1 C2
  | .aug i o e, r, C => (match r[i]? with
    | some (some x) => (evE g e r C).out fun y C1 => (lift (binU C1 o x y) C1).out fun z C2 => (match z with
      | .int _ => .nx (r.set i (some z)) C2
      | _ => .no)
    | _ => .no)
  | .augS o i p e, r, C => (evE g o r C).out fun x C1 => (evE g i r C1).out fun y C2 => (lift (ixU C2 x y) C2).out fun z C3 => (evE g e r C3).out fun w C4 =>
    (lift (binU C4 p z w) C4).out fun v C5 => (match v with
      | .int _ => (setU x y v C5).out fun _ C6 => .nx r C6
      | _ => .no)
  | .ex e, r, C => (evE g e r C).out fun _ C1 => .nx r C1
  | .ret e, r, C => (evE g e r C).out fun u C1 => .rt u C1
  | .retN, _, C => .rt .non C
  | .ife t a b, r, C => (evT g t r C).out fun k C1 => if k = true then exSs g a r C1 else exSs g b r C1
  | .for_ t it b, r, C => (evI g it r C).out fun l C1 => forGo (fun u r C => evG g t u r C) (fun r C => exSs g b r C) l r C1
  | .while_ t b, r, C => whileGo (fun r C => evT g t r C) (fun r C => exSs g b r C) g.wf r C
  | .pass, r, C => .nx r C
  | .brk, r, C => .bk r C
  | .cont, r, C => .ct r C
  | .raise c es, r, C => (evEs g es r C).out fun us C1 => .er c us C1
  | .doc, r, C => .nx r C
def exSs (g : Gm) : Ss → Sl → List Cl → Ou
  | .nil, r, C => .nx r C
  | .cons s ss, r, C => (match exS g s r C with
    | .nx r1 C1 => exSs g ss r1 C1
    | o => o)
end
/-! ### defs -/
mutual
def nnU (n : Nat) : U → Bool
  | .tup l => nnUs n l
  | .ktup l => nnUs n l
  | .lst l => nnUs n l
  | .klst l => nnUs n l
  | .dic _ l => nnKs n l
  | .row _ l => nnUs n l
  | .cel k => decide (k < n)
  | _ => true
def nnUs (n : Nat) : List U → Bool
  | [] => true
  | u :: us => nnU n u && nnUs n us
def nnKs (n : Nat) : List (U × U) → Bool
  | [] => true
  | (_, u) :: us => nnU n u && nnKs n us
end
def nnC (n : Nat) (c : Cl) : Bool := match c.ct with
  | .lst l => nnUs n l
  | .dic _ l => nnKs n l
  | .ins _ l => nnUs n l
mutual
def U.beq : U → U → Bool
  | .non, .non => true
  | .bl a, .bl b => a == b
  | .int i, .int j => decide (i = j)
  | .str x, .str y => decide (x = y)
  | .tup x, .tup y => U.beqs x y
  | .ktup x, .ktup y => U.beqs x y
  | .lst x, .lst y => U.beqs x y
  | .klst x, .klst y => U.beqs x y
  | .dic s x, .dic t y => s == t && U.beqk x y
  | .row c x, .row d y => c == d && U.beqs x y
  | .cel k, .cel j => k == j
  | _, _ => false
def U.beqs : List U → List U → Bool
  | [], [] => true
  | a :: x, b :: y => U.beq a b && U.beqs x y
  | _, _ => false
def U.beqk : List (U × U) → List (U × U) → Bool
  | [], [] => true
  | (a, c) :: x, (b, d) :: y => U.beq a b && (U.beq c d && U.beqk x y)
  | _, _ => false
end
def Cl.beq (a b : Cl) : Bool := a.live == b.live && (match a.ct, b.ct with
  | .lst x, .lst y => U.beqs x y
  | .dic s x, .dic t y => s == t && U.beqk x y
  | .ins c x, .ins d y => c == d && U.beqs x y
  | _, _ => false)
def eqCs : List Cl → List Cl → Bool
  | [], [] => true
  | a :: x, b :: y => Cl.beq a b && eqCs x y
  | _, _ => false
structure Def where
  np : Nat
  nslots : Nat
  keep : Bool
  body : Ss
/-- what a call leaves of the mutable objects: the new ones are forgotten where nothing names them -/
def fin (keep : Bool) (C0 : List Cl) (u : U) (C : List Cl) : Rs U :=
  if keep = true ∨ C.length ≤ C0.length then .ok u C
  else if nnU C0.length u = true ∧ (eqCs (C.take C0.length) C0 || (C.take C0.length).all (nnC C0.length)) = true then .ok u (C.take C0.length) else .ok u C
structure Prog where
  defs : List Def
  con : List U
  cls : List (Nat × List Str)
  wf : Nat
def Prog.gl (p : Prog) (cf : Nat → List U → List Cl → Rs U) : Gm where
  con := fun j => p.con[j]?
  cf := cf
  fields := fun c => match p.cls[c]? with
    | some d => d.2
    | none => []
  ini := fun c => p.cls[c]?.map (·.1)
  wf := p.wf
def runD (g : Gm) (d : Def) (us : List U) (C : List Cl) : Rs U :=
  if us.length = d.np then
    (match exSs g d.body (us.map some ++ List.replicate (d.nslots - d.np) none) C with
    | .nx _ C1 => fin d.keep C .non C1
    | .rt u C1 => fin d.keep C u C1
    | .er c l C1 => .er c l C1
    | _ => .no)
  else .no
def call (p : Prog) : Nat → Nat → List U → List Cl → Rs U
  | 0, _, _, _ => .no
  | n + 1, j, us, C => match p.defs[j]? with
    | some d => runD (p.gl (call p n)) d us C
    | none => .no
end Py
namespace Py
open PySem Spec PyProof.Rows L2
/-! ### wishes -/
/-- the outcome is a value, and Q holds of it; or an error, and E holds of it -/
def Wp {α : Type} (E : Nat → List U → List Cl → Prop) (r : Rs α) (Q : α → List Cl → Prop) : Prop := match r with
  | .ok a C => Q a C
  | .er c l C => E c l C
  | .no => False
theorem Wp.bind {α β : Type} {E : Nat → List U → List Cl → Prop} {r : Rs α} {f : α → List Cl → Rs β} {Q : β → List Cl → Prop} (h : Wp E (r.bind f) Q) : Wp E r fun a C => Wp E (f a C) Q := by
  cases r with
  | ok a C => exact h
  | er c l C => exact h
  | no => exact h
theorem Wp.mono {α : Type} {E E' : Nat → List U → List Cl → Prop} {r : Rs α} {Q Q' : α → List Cl → Prop} (h : Wp E r Q) (he : ∀ c l C, E c l C → E' c l C) (hq : ∀ a C, Q a C → Q' a C) : Wp E' r Q' := by
  cases r with
  | ok a C => exact hq _ _ h
  | er c l C => exact he _ _ _ h
  | no => exact h
theorem Wp.lift {α : Type} {E : Nat → List U → List Cl → Prop} {o : Option α} {C : List Cl} {Q : α → List Cl → Prop} (h : Wp E (lift o C) Q) : ∃ a, o = some a ∧ Q a C := by
  cases o with
  | none => exact h.elim
  | some a => exact ⟨a, rfl, h⟩
theorem Wp.ok {α : Type} {E : Nat → List U → List Cl → Prop} {a : α} {C : List Cl} {Q : α → List Cl → Prop} (h : Wp E (.ok a C) Q) : Q a C := h
theorem Wp.no {α : Type} {E : Nat → List U → List Cl → Prop} {Q : α → List Cl → Prop} (h : Wp E (.no : Rs α) Q) : False := h
/-! ### states -/
structure StOk (K : PySem.W.Frag) (cs : List ClsD) (sg : L2.St) (H : Hp) (r : Sl) (mu : List Addr) (C : List Cl) (hid : List Addr) : Prop where
  w : WOk K cs H mu C hid
  len : sg.length = r.length
  sl : ∀ (i : Nat) (u : U), r[i]? = some (some u) → ∃ v, sg[i]? = some (some v) ∧ RelU K cs (Zof H mu C hid) mu v u
/-- what is wanted of an error at this state (none, here) -/
def EW (sg : L2.St) (H : Hp) (mu : List Addr) (C : List Cl) (hid : List Addr) : Nat → List U → List Cl → Prop := fun _ _ _ => False
section
variable {K : PySem.W.Frag} {cs : List ClsD} {sg : L2.St} {H H' : Hp} {r : Sl} {mu mu' : List Addr} {C C' : List Cl} {hid : List Addr}
theorem StOk.grow (s : StOk K cs sg H r mu C hid) (w : WOk K cs H' mu' C' hid) (g : Grow hid H mu C H' mu' C') : StOk K cs sg H' r mu' C' hid :=
  ⟨w, s.len, fun i u h => let ⟨v, e, q⟩ := s.sl i u h; ⟨v, e, q.up g.up⟩⟩
theorem EW.up (g : Grow hid H mu C H' mu' C') : ∀ c l C2, EW sg H' mu' C' hid c l C2 → EW sg H mu C hid c l C2 := fun _ _ _ h => h
theorem EW.dn (g : Grow hid H mu C H' mu' C') : ∀ c l C2, EW sg H mu C hid c l C2 → EW sg H' mu' C' hid c l C2 := fun _ _ _ h => h
end
/-- what is alike in all contexts of a piece of syntax -/
structure Fam (K : PySem.W.Frag) (P : Cx → Prop) : Prop where
  k : ∀ X, P X → X.K = K
  hu : ∀ X, P X → X.A.units + 65 < cLine
  calm : ∀ X, P X → X.calm = true
  nd : ∀ X, P X → X.N.Nodup
/-- the interpreter is right about an expression -/
def SndE (K : PySem.W.Frag) (cs : List ClsD) (P : Cx → Prop) (x : Expr) (f : Sl → List Cl → Rs U) : Prop := ∃ t : TE, (∀ X, P X → PE X x t) ∧ ∀ sg H r mu C hid, StOk K cs sg H r mu C hid → ∀ Q : VK,
  Wp (EW sg H mu C hid) (f r C) (fun u C' => ∀ v H' mu', WOk K cs H' mu' C' hid → Grow hid H mu C H' mu' C' → RelU K cs (Zof H' mu' C' hid) mu' v u → Q v H') → t sg H Q
def SndT (K : PySem.W.Frag) (cs : List ClsD) (P : Cx → Prop) (x : Expr) (f : Sl → List Cl → Rs Bool) : Prop := ∃ t : TT, (∀ X, P X → PT X x t) ∧ ∀ sg H r mu C hid, StOk K cs sg H r mu C hid → ∀ Q : Bool → Hp → Prop,
  Wp (EW sg H mu C hid) (f r C) (fun b C' => ∀ H' mu', WOk K cs H' mu' C' hid → Grow hid H mu C H' mu' C' → Q b H') → t sg H Q
def SndA (K : PySem.W.Frag) (cs : List ClsD) (P : Cx → Prop) (xs : List Expr) (f : Sl → List Cl → Rs (List U)) : Prop := ∃ t : TA, (∀ X, P X → PA X xs t) ∧ ∀ sg H r mu C hid, StOk K cs sg H r mu C hid → ∀ Q : List V → Hp → Prop,
  Wp (EW sg H mu C hid) (f r C) (fun us C' => ∀ vs H' mu', WOk K cs H' mu' C' hid → Grow hid H mu C H' mu' C' → RelUs K cs (Zof H' mu' C' hid) mu' vs us → Q vs H') → t sg H Q
def SndO (K : PySem.W.Frag) (cs : List ClsD) (P : Cx → Prop) (x : Option Expr) (f : Sl → List Cl → Rs (Option Int)) : Prop := ∃ t : TO, (∀ X, P X → PO X x t) ∧ ∀ sg H r mu C hid, StOk K cs sg H r mu C hid → ∀ Q : Option Int → Hp → Prop,
  Wp (EW sg H mu C hid) (f r C) (fun o C' => ∀ H' mu', WOk K cs H' mu' C' hid → Grow hid H mu C H' mu' C' → Q o H') → t sg H Q
section
variable {K : PySem.W.Frag} {P : Cx → Prop} {cs : List ClsD} {x y z : Expr} {f h k : Sl → List Cl → Rs U} {pos : Pos}
/-- a value that leaves the world as it is -/
theorem wp_keep {sg : L2.St} {H : Hp} {mu : List Addr} {C : List Cl} {hid : List Addr} {u : U} {Q : VK} {v : V} (w : WOk K cs H mu C hid)
    (h : Wp (EW sg H mu C hid) (.ok u C) (fun w C' => ∀ v' H' mu', WOk K cs H' mu' C' hid → Grow hid H mu C H' mu' C' → RelU K cs (Zof H' mu' C' hid) mu' v' w → Q v' H')) (e : RelU K cs (Zof H mu C hid) mu v u) : Q v H :=
  h v H mu w Grow.refl e
/-- a new thing for good -/
theorem wp_new {sg : L2.St} {H : Hp} {mu : List Addr} {C : List Cl} {hid : List Addr} {u : U} {Q : VK} {p : Addr} {o : HO} (w : WOk K cs H mu C hid) (hp : H p = none)
    (h : Wp (EW sg H mu C hid) (.ok u C) (fun w C' => ∀ v' H' mu', WOk K cs H' mu' C' hid → Grow hid H mu C H' mu' C' → RelU K cs (Zof H' mu' C' hid) mu' v' w → Q v' H'))
    (e : Up (Zof H mu C hid) mu (Zof (upd H p o) mu C hid) mu → Zof (upd H p o) mu C hid p = some o → RelU K cs (Zof (upd H p o) mu C hid) mu (.ref p) u) : Q (.ref p) (upd H p o) := by
  obtain ⟨g, w', z⟩ := w.newZ (o := o) hp
  exact h _ _ _ w' g (e g.up z)
/-! ### names and constants -/
theorem snd_var {i : Nat} {n : Str} (hN : ∀ X, P X → X.N[i]? = some n) (hv : ∀ X, P X → Vis X.env.scope n) (hd : (n == ("__debug__" : Str)) = false) (hcd : (n == ("__classdict__" : Str)) = false) (g : Gm) : SndE K cs P (.Name n pos) (evE g (.var i)) := by
  refine ⟨_, fun X hX => pe_var (i := i) (hN X hX) (hv X hX) hd hcd, fun sg H r mu C hid st Q w => ?_⟩
  unfold evE at w
  cases e : r[i]? with
  | none => rw [e] at w; exact w.elim
  | some o =>
    cases o with
    | none => rw [e] at w; exact w.elim
    | some u =>
      rw [e] at w
      obtain ⟨v, e1, q⟩ := st.sl i u e
      exact ⟨v, e1, wp_keep st.w w q⟩
theorem snd_frz {i : Nat} {n : Str} (hN : ∀ X, P X → X.N[i]? = some n) (hv : ∀ X, P X → Vis X.env.scope n) (hd : (n == ("__debug__" : Str)) = false) (hcd : (n == ("__classdict__" : Str)) = false) (g : Gm) : SndE K cs P (.Name n pos) (evE g (.frz i)) := by
  refine ⟨_, fun X hX => pe_var (i := i) (hN X hX) (hv X hX) hd hcd, fun sg H r mu C hid st Q w => ?_⟩
  unfold evE at w
  cases e : r[i]? with
  | none => rw [e] at w; exact w.elim
  | some o =>
    cases o with
    | none => rw [e] at w; exact w.elim
    | some u =>
      rw [e] at w
      obtain ⟨v, e1, q⟩ := st.sl i u e
      refine ⟨v, e1, ?_⟩
      cases u with
      | cel k =>
        cases ek : C[k]? with
        | none => simp only [ek] at w; exact w.elim
        | some c =>
          obtain ⟨b, ct⟩ := c
          cases q with
          | @cel _ a hk =>
            obtain ⟨g1, w1⟩ := st.w.frzC ek
            obtain ⟨a', o, ea, at', rc⟩ := w1.ct k ⟨false, ct⟩ (by rw [List.getElem?_set_self (List.getElem?_eq_some_iff.mp ek).1])
            rw [hk] at ea
            cases ea
            have hz0 : ∀ {o : HO}, H a = some o → Zof H mu (C.set k ⟨false, ct⟩) hid a = some o := fun {o} rr => by
              have nl : ¬ liveAt mu (C.set k ⟨false, ct⟩) a := by
                rintro ⟨j, d, h1, h2⟩
                by_cases hj : k = j
                · subst hj
                  rw [List.getElem?_set_self (List.getElem?_eq_some_iff.mp ek).1] at h2
                  cases h2
                · rw [List.getElem?_set_ne hj] at h2
                  exact hj (st.w.inj j k _ _ _ h1 hk h2 ek rfl).symm
              exact zof_of rr nl (st.w.hc k _ hk)
            have hz : ∀ {o : HO}, Rd H a o → Rd (Zof H mu (C.set k ⟨false, ct⟩) hid) a o := fun {o} rr => by
              rcases rr with rr | ⟨x, rr⟩
              · exact .inl (hz0 rr)
              · exact .inr ⟨x, hz0 rr⟩
            cases ct with
            | lst l =>
              simp only [ek] at w
              refine w _ _ _ w1 g1 ?_
              cases rc with
              | lst rl =>
                rcases at' with z | ⟨_, z, _⟩
                · exact .lst (hz0 z) rl
                · cases z
            | dic t l =>
              simp only [ek] at w
              refine w _ _ _ w1 g1 ?_
              cases rc with
              | dicK rl => exact .dicK (hz at'.rd) rl
              | dicT rl => exact .dicT (hz at'.rd) rl
            | ins c l =>
              simp only [ek] at w
              exact w.elim
      | _ => exact wp_keep st.w w q
theorem snd_cI {i : Int} {j : Nat} (g : Gm) : SndE K cs P (.Constant (.int i) j pos) (evE g (.cI i)) := ⟨_, fun _ _ => pe_int, fun sg H r mu C hid st Q w => wp_keep st.w w (.int i)⟩
theorem snd_cS {i : Str} {j : Nat} (g : Gm) : SndE K cs P (.Constant (.str i) j pos) (evE g (.cS i)) := ⟨_, fun _ _ => pe_str, fun sg H r mu C hid st Q w => wp_keep st.w w (.str i)⟩
theorem snd_cB {i : Bool} {j : Nat} (g : Gm) : SndE K cs P (.Constant (.bool i) j pos) (evE g (.cB i)) := ⟨_, fun _ _ => pe_bl, fun sg H r mu C hid st Q w => wp_keep st.w w (.bl i)⟩
theorem snd_cN {j : Nat} (g : Gm) : SndE K cs P (.Constant .none j pos) (evE g .cN) := ⟨_, fun _ _ => pe_non, fun sg H r mu C hid st Q w => wp_keep st.w w .non⟩
/-- a module's constant -/
def ConOk (K : PySem.W.Frag) (cs : List ClsD) (P : Cx → Prop) (n : Str) (u : U) : Prop := ∃ v w, (∀ X, P X → X.mg n = some w) ∧ RelV v w ∧ ∀ Z mu, RelU K cs Z mu v u
theorem snd_glo {n : Str} {j : Nat} {g : Gm} (hg : ∀ X, P X → Gl X n) (hd : (n == ("__debug__" : Str)) = false) (hc : ∀ u, g.con j = some u → ConOk K cs P n u) : SndE K cs P (.Name n pos) (evE g (.glo j)) := by
  cases e : g.con j with
  | none => exact ⟨_, fun _ _ => ⟨fun _ _ _ _ _ _ (h : False) => h.elim⟩, fun sg H r mu C hid st Q w => by unfold evE at w; rw [e] at w; exact w⟩
  | some u =>
    obtain ⟨v, w0, hm, hr, q⟩ := hc u e
    refine ⟨_, fun X hX => pe_glob (hg X hX) (hm X hX) hr hd, fun sg H r mu C hid st Q w => ?_⟩
    unfold evE at w
    rw [e] at w
    exact wp_keep st.w w (q _ _)
end
end Py
namespace Py
open PySem Spec PyProof.Rows L2
section
variable {K : PySem.W.Frag} {cs : List ClsD} {H : Hp} {mu : List Addr} {C : List Cl} {hid : List Addr} {v : V} {u : U}
theorem cell_inv {k : Nat} {x : U} (e : cell C k = x) : (x = .cel k ∧ C[k]? = none) ∨ ∃ c, C[k]? = some c ∧ x = ofCt c.ct := by
  unfold cell at e
  cases q : C[k]? with
  | none => rw [q] at e; exact .inl ⟨e.symm, rfl⟩
  | some c => rw [q] at e; exact .inr ⟨c, rfl, e.symm⟩
theorem cell_lst {k : Nat} {l : List U} (e : cell C k = .lst l) : ∃ b, C[k]? = some ⟨b, .lst l⟩ := by
  rcases cell_inv e with ⟨z, _⟩ | ⟨⟨b, ct⟩, h, z⟩
  · cases z
  · cases ct <;> cases z
    exact ⟨b, h⟩
theorem cell_dic {k : Nat} {t : Bool} {l : List (U × U)} (e : cell C k = .dic t l) : ∃ b, C[k]? = some ⟨b, .dic t l⟩ := by
  rcases cell_inv e with ⟨z, _⟩ | ⟨⟨b, ct⟩, h, z⟩
  · cases z
  · cases ct <;> cases z
    exact ⟨b, h⟩
theorem cell_row {k c : Nat} {l : List U} (e : cell C k = .row c l) : ∃ b, C[k]? = some ⟨b, .ins c l⟩ := by
  rcases cell_inv e with ⟨z, _⟩ | ⟨⟨b, ct⟩, h, z⟩
  · cases z
  · cases ct <;> cases z
    exact ⟨b, h⟩
/-- what a cell is not -/
def celly : U → Bool
  | .lst _ => true
  | .dic _ _ => true
  | .row _ _ => true
  | .cel _ => true
  | _ => false
theorem cell_celly (k : Nat) : celly (cell C k) = true := by
  rcases cell_inv (C := C) (k := k) rfl with ⟨z, _⟩ | ⟨⟨b, ct⟩, h, z⟩
  · rw [z]; rfl
  · rw [z]; cases ct <;> rfl
theorem cell_no {k : Nat} {x : U} (e : cell C k = x) (h : celly x = false) : False := by
  rw [← e, cell_celly] at h
  cases h
theorem rd_int {i : Int} (e : rd C u = .int i) : u = .int i := by
  cases u <;> first | exact e | (exact (cell_no e rfl).elim) | cases e
theorem rd_str {i : Str} (e : rd C u = .str i) : u = .str i := by
  cases u <;> first | exact e | (exact (cell_no e rfl).elim) | cases e
theorem rd_bl {i : Bool} (e : rd C u = .bl i) : u = .bl i := by
  cases u <;> first | exact e | (exact (cell_no e rfl).elim) | cases e
theorem rd_non (e : rd C u = .non) : u = .non := by
  cases u <;> first | exact e | (exact (cell_no e rfl).elim) | cases e
theorem rd_ktup {l : List U} (e : rd C u = .ktup l) : False := by
  cases u <;> first | (exact (cell_no e rfl).elim) | cases e
theorem rd_klst {l : List U} (e : rd C u = .klst l) : False := by
  cases u <;> first | (exact (cell_no e rfl).elim) | cases e
theorem rdw_int {i : Int} (e : rdw C u = .int i) : u = .int i := by
  cases u <;> first | exact e | (exact (cell_no e rfl).elim) | cases e
theorem rel_tup {l : List U} (w : WOk K cs H mu C hid) (h : RelU K cs (Zof H mu C hid) mu v u) (e : rd C u = .tup l) : ∃ a xs, v = .ref a ∧ SqT K H a xs ∧ RelUs K cs (Zof H mu C hid) mu xs l := by
  cases h with
  | tup z r => cases e; exact ⟨_, _, rfl, .inl (.inl (zof_le _ _ z)), r⟩
  | ktup z r => cases e; exact ⟨_, _, rfl, .inr z, r⟩
  | @cel k a z => exact (cell_no e rfl).elim
  | _ => cases e
theorem rel_lst {l : List U} (w : WOk K cs H mu C hid) (h : RelU K cs (Zof H mu C hid) mu v u) (e : rd C u = .lst l) : ∃ a xs, v = .ref a ∧ SqL K H a xs ∧ RelUs K cs (Zof H mu C hid) mu xs l := by
  cases h with
  | lst z r => cases e; exact ⟨_, _, rfl, .inl (.inl (zof_le _ _ z)), r⟩
  | klst z r =>
    cases e
    refine ⟨_, _, rfl, ?_, r⟩
    rcases z with z | z
    · exact .inl (zof_rd z)
    · exact .inr z
  | @cel k a z =>
    obtain ⟨lv, ek⟩ := cell_lst e
    obtain ⟨b, o, e1, at', rc⟩ := w.ct k _ ek
    rw [z] at e1
    cases e1
    cases rc with
    | lst r => exact ⟨_, _, rfl, .inl at'.rd, r⟩
  | _ => cases e
/-- a list that was made: it is tracked -/
theorem rel_lstW {l : List U} (w : WOk K cs H mu C hid) (h : RelU K cs (Zof H mu C hid) mu v u) (e : rdw C u = .lst l) : ∃ a xs, v = .ref a ∧ H a = some (.lst xs) ∧ RelUs K cs (Zof H mu C hid) mu xs l := by
  cases h with
  | lst z r => cases e; exact ⟨_, _, rfl, zof_le _ _ z, r⟩
  | @cel k a z =>
    obtain ⟨lv, ek⟩ := cell_lst e
    obtain ⟨b, o, e1, at', rc⟩ := w.ct k _ ek
    rw [z] at e1
    cases e1
    cases rc with
    | lst r =>
      rcases at' with q | ⟨_, q, _⟩
      · exact ⟨_, _, rfl, q, r⟩
      · cases q
  | _ => cases e
theorem rel_dic {t : Bool} {l : List (U × U)} (w : WOk K cs H mu C hid) (h : RelU K cs (Zof H mu C hid) mu v u) (e : rd C u = .dic t l) :
    ∃ a, v = .ref a ∧ ((t = false ∧ ∃ kvs, Rd H a (.dK kvs) ∧ RelK K cs (Zof H mu C hid) mu kvs l) ∨ (t = true ∧ ∃ kvs, Rd H a (.dT kvs) ∧ RelT K cs (Zof H mu C hid) mu kvs l)) := by
  cases h with
  | dicK z r => cases e; exact ⟨_, rfl, .inl ⟨rfl, _, zof_rd z, r⟩⟩
  | dicT z r => cases e; exact ⟨_, rfl, .inr ⟨rfl, _, zof_rd z, r⟩⟩
  | @cel k a z =>
    obtain ⟨lv, ek⟩ := cell_dic e
    obtain ⟨b, o, e1, at', rc⟩ := w.ct k _ ek
    rw [z] at e1
    cases e1
    cases rc with
    | dicK r => exact ⟨_, rfl, .inl ⟨rfl, _, at'.rd, r⟩⟩
    | dicT r => exact ⟨_, rfl, .inr ⟨rfl, _, at'.rd, r⟩⟩
  | _ => cases e
mutual
theorem dp_of (hz : ∀ a o, Zof H mu C hid a = some o → H a = some o) : ∀ {v : V} {u : U} {d : PyData}, RelU K cs (Zof H mu C hid) mu v u → pd u = some d → Dp K H v d
  | _, _, _, .non, e => by cases e; exact .non
  | _, _, _, .bl b, e => by cases e; exact .bl b
  | _, _, _, .int b, e => by cases e; exact .int b
  | _, _, _, .str b, e => by cases e; exact .str b
  | _, _, _, .tup (l := l) z r, e => by
    unfold pd at e
    cases q : pds l with
    | none => rw [q] at e; cases e
    | some ds => rw [q] at e; cases e; exact .tup (.inl (.inl (hz _ _ z))) (dps_of hz r q)
  | _, _, _, .ktup (l := l) z r, e => by
    unfold pd at e
    cases q : pds l with
    | none => rw [q] at e; cases e
    | some ds => rw [q] at e; cases e; exact .tup (.inr z) (dps_of hz r q)
  | _, _, _, .lst (l := l) z r, e => by
    unfold pd at e
    cases q : pds l with
    | none => rw [q] at e; cases e
    | some ds => rw [q] at e; cases e; exact .lst (.inl (.inl (hz _ _ z))) (dps_of hz r q)
  | _, _, _, .klst (l := l) z r, e => by
    unfold pd at e
    cases q : pds l with
    | none => rw [q] at e; cases e
    | some ds =>
      rw [q] at e
      cases e
      refine .lst ?_ (dps_of hz r q)
      rcases z with z | z
      · exact .inl (rd_up hz z)
      · exact .inr z
  | _, _, _, .dicK _ _, e => by cases e
  | _, _, _, .dicT _ _, e => by cases e
  | _, _, _, .row _ _ _ _, e => by cases e
  | _, _, _, .cel _, e => by cases e
theorem dps_of (hz : ∀ a o, Zof H mu C hid a = some o → H a = some o) : ∀ {vs : List V} {us : List U} {ds : List PyData}, RelUs K cs (Zof H mu C hid) mu vs us → pds us = some ds → DpAll K H vs ds
  | _, _, _, .nil, e => by cases e; exact .nil
  | _, _, _, .cons (u := u) (us := us) h r, e => by
    unfold pds at e
    cases q : pd u with
    | none => rw [q] at e; cases e
    | some d =>
      cases q2 : pds us with
      | none => rw [q, q2] at e; cases e
      | some ds => rw [q, q2] at e; cases e; exact .cons (dp_of hz h q) (dps_of hz r q2)
end
theorem dp_rd {d : PyData} (w : WOk K cs H mu C hid) (h : RelU K cs (Zof H mu C hid) mu v u) (e : pd (rd C u) = some d) : Dp K H v d := by
  cases q : rd C u with
  | lst l =>
    rw [q] at e
    obtain ⟨a, xs, rfl, hs, r⟩ := rel_lst w h q
    unfold pd at e
    cases q2 : pds l with
    | none => rw [q2] at e; cases e
    | some ds => rw [q2] at e; cases e; exact .lst hs (dps_of zof_le r q2)
  | tup l =>
    rw [q] at e
    obtain ⟨a, xs, rfl, hs, r⟩ := rel_tup w h q
    unfold pd at e
    cases q2 : pds l with
    | none => rw [q2] at e; cases e
    | some ds => rw [q2] at e; cases e; exact .tup hs (dps_of zof_le r q2)
  | int i => rw [rd_int q] at h; rw [q] at e; cases e; cases h; exact .int i
  | str i => rw [rd_str q] at h; rw [q] at e; cases e; cases h; exact .str i
  | bl i => rw [rd_bl q] at h; rw [q] at e; cases e; cases h; exact .bl i
  | non => rw [rd_non q] at h; rw [q] at e; cases e; cases h; exact .non
  | klst l => exact (rd_klst q).elim
  | ktup l => exact (rd_ktup q).elim
  | dic t l => rw [q] at e; cases e
  | row c l => rw [q] at e; cases e
  | cel k => rw [q] at e; cases e
end
/-! ### == -/
section
variable {K : PySem.W.Frag} {cs : List ClsD} {H : Hp} {mu : List Addr} {C : List Cl} {hid : List Addr} {v v' : V} {u u' : U}
theorem eq_some {k : Bool} (e : eqU C u u' = some k) : ∃ d d', pd (rd C u) = some d ∧ pd (rd C u') = some d' ∧ SeqAt.shaped d = true ∧ SeqAt.shaped d' = true ∧ k = PyData.eqv d d' := by
  unfold eqU at e
  split at e
  · rename_i i j
    cases e
    refine ⟨.int i, .int j, rfl, rfl, rfl, rfl, ?_⟩
    show decide (i = j) = (i == j)
    exact (Bool.beq_eq_decide_eq i j).symm
  · cases q : pd (rd C u) with
    | none => rw [q] at e; cases e
    | some d =>
      cases q2 : pd (rd C u') with
      | none => rw [q, q2] at e; cases e
      | some d' =>
        rw [q, q2] at e
        unfold eqD at e
        dsimp only at e
        by_cases h : SeqAt.shaped d = true ∧ SeqAt.shaped d' = true
        · rw [if_pos h] at e
          exact ⟨d, d', rfl, rfl, h.1, h.2, (Option.some.inj e).symm⟩
        · rw [if_neg h] at e
          cases e
theorem eq_rule {k : Bool} {Q : VK} (w : WOk K cs H mu C hid) (h : RelU K cs (Zof H mu C hid) mu v u) (h' : RelU K cs (Zof H mu C hid) mu v' u') (e : eqU C u u' = some k) (q : Q (.bl k) H) : rEqD K v v' H Q := by
  obtain ⟨d, d', e1, e2, s1, s2, rfl⟩ := eq_some e
  exact ⟨d, d', dp_rd w h e1, dp_rd w h' e2, s1, s2, q⟩
theorem ne_rule {k : Bool} {Q : VK} (w : WOk K cs H mu C hid) (h : RelU K cs (Zof H mu C hid) mu v u) (h' : RelU K cs (Zof H mu C hid) mu v' u') (e : eqU C u u' = some k) (q : Q (.bl (!k)) H) : rNeD K v v' H Q := by
  obtain ⟨d, d', e1, e2, s1, s2, rfl⟩ := eq_some e
  exact ⟨d, d', dp_rd w h e1, dp_rd w h' e2, s1, s2, q⟩
/-! ### keys of dicts -/
theorem keyOf_val {Z : Hp} {k : Key} {y : V} (h : RelU K cs Z mu y u) (e : keyOf u = some k) : y = kV k := by
  cases h <;> cases e <;> rfl
theorem keysOf_vals {Z : Hp} : ∀ {ys : List V} {us : List U} {ks : List Key}, RelUs K cs Z mu ys us → keysOf us = some ks → ys = ks.map kV
  | _, _, _, .nil, e => by cases e; rfl
  | _, _, _, .cons (u := u) (us := us) h r, e => by
    unfold keysOf at e
    cases q : keyOf u with
    | none => rw [q] at e; cases e
    | some k =>
      cases q2 : keysOf us with
      | none => rw [q, q2] at e; cases e
      | some ks =>
        rw [q, q2] at e
        cases e
        rw [keyOf_val h q, keysOf_vals r q2]
        rfl
theorem keq_plain {a b : U} {k j : Key} (ha : keyOf a = some k) (hb : keyOf b = some j) : keq a b = decide (k = j) := by
  cases a <;> cases ha <;> cases b <;> cases hb <;> simp [keq]
theorem keq_tup {a b : List U} {k j : List Key} (ha : keysOf a = some k) (hb : keysOf b = some j) : keq (.tup a) (.tup b) = decide (k = j) := by
  simp [keq, ha, hb]
/-- what a look-up finds -/
theorem dget_K {Z : Hp} {k : Key} {ku : U} (hk : keyOf ku = some k) : ∀ {kvs : List (Key × V)} {l : List (U × U)}, RelK K cs Z mu kvs l →
    (dget l ku = none ∧ valV kvs k = none) ∨ ∃ u v, dget l ku = some u ∧ valV kvs k = some v ∧ RelU K cs Z mu v u
  | _, _, .nil => .inl ⟨rfl, rfl⟩
  | _, _, .cons (k := k') (ku := ku') (v := v) (u := u) (vs := vs) (us := us) h r t => by
    by_cases e : k' = k
    · refine .inr ⟨u, v, ?_, valV_pos e, r⟩
      simp [dget, keq_plain h hk, e]
    · rw [valV_neg e]
      have e2 : dget ((ku', u) :: us) ku = dget us ku := by simp [dget, keq_plain h hk, e]
      rw [e2]
      exact dget_K hk t
theorem dget_T {Z : Hp} {k : List Key} {ku : List U} (hk : keysOf ku = some k) : ∀ {kvs : List (List Key × V)} {l : List (U × U)}, RelT K cs Z mu kvs l →
    (dget l (.tup ku) = none ∧ valV kvs k = none) ∨ ∃ u v, dget l (.tup ku) = some u ∧ valV kvs k = some v ∧ RelU K cs Z mu v u
  | _, _, .nil => .inl ⟨rfl, rfl⟩
  | _, _, .cons (k := k') (ku := ku') (v := v) (u := u) (vs := vs) (us := us) h r t => by
    by_cases e : k' = k
    · refine .inr ⟨u, v, ?_, valV_pos e, r⟩
      simp [dget, keq_tup h hk, e]
    · rw [valV_neg e]
      have e2 : dget ((.tup ku', u) :: us) (.tup ku) = dget us (.tup ku) := by simp [dget, keq_tup h hk, e]
      rw [e2]
      exact dget_T hk t
theorem kind_inv {t : Bool} (h : kind t u = true) : (t = false ∧ ∃ k, keyOf u = some k) ∨ (t = true ∧ ∃ l ks, u = .tup l ∧ keysOf l = some ks) := by
  cases u with
  | int i => cases t <;> simp [kind] at h; exact .inl ⟨rfl, _, rfl⟩
  | str i => cases t <;> simp [kind] at h; exact .inl ⟨rfl, _, rfl⟩
  | tup l =>
    cases t <;> simp [kind] at h
    cases q : keysOf l with
    | none => rw [q] at h; cases h
    | some ks => exact .inr ⟨rfl, l, ks, rfl, q⟩
  | _ => cases h
/-- d[k], whether it is there or not -/
theorem dget_rule {t : Bool} {l : List (U × U)} {dv kv : V} {d k : U} (w : WOk K cs H mu C hid) (hd : RelU K cs (Zof H mu C hid) mu dv d) (hk : RelU K cs (Zof H mu C hid) mu kv k) (e : rd C d = .dic t l) (ek : kind t k = true) :
    ∃ a, dv = .ref a ∧ IsD H a ∧ ((dget l k = none ∧ DGet H a kv none) ∨ ∃ u v, dget l k = some u ∧ DGet H a kv (some v) ∧ RelU K cs (Zof H mu C hid) mu v u) := by
  obtain ⟨a, rfl, q⟩ := rel_dic w hd e
  refine ⟨a, rfl, ?_⟩
  rcases kind_inv ek with ⟨rfl, kk, e1⟩ | ⟨rfl, lk, ks, rfl, e1⟩
  · rcases q with ⟨_, kvs, r, rk⟩ | ⟨z, _⟩
    · refine ⟨.inl ⟨kvs, r⟩, ?_⟩
      have ev := keyOf_val hk e1
      rcases dget_K e1 rk with ⟨a1, a2⟩ | ⟨u, v, a1, a2, a3⟩
      · exact .inl ⟨a1, .inl ⟨kvs, kk, r, ev, a2.symm⟩⟩
      · exact .inr ⟨u, v, a1, .inl ⟨kvs, kk, r, ev, a2.symm⟩, a3⟩
    · cases z
  · rcases q with ⟨z, _⟩ | ⟨_, kvs, r, rk⟩
    · cases z
    · refine ⟨.inr ⟨kvs, r⟩, ?_⟩
      cases hk with
      | tup hz hr =>
        have hb := keysOf_vals hr e1
        subst hb
        rcases dget_T e1 rk with ⟨a1, a2⟩ | ⟨u, v, a1, a2, a3⟩
        · exact .inl ⟨a1, .inr ⟨kvs, ks, _, r, rfl, zof_le _ _ hz, a2.symm⟩⟩
        · exact .inr ⟨u, v, a1, .inr ⟨kvs, ks, _, r, rfl, zof_le _ _ hz, a2.symm⟩, a3⟩
end
end Py
namespace Py
open PySem Spec PyProof.Rows L2
/-- what a pure step leads to -/
def PQ (K : PySem.W.Frag) (cs : List ClsD) (H : Hp) (mu : List Addr) (C : List Cl) (hid : List Addr) (w : U) (Q : VK) : Prop :=
  ∀ v2 H', WOk K cs H' mu C hid → Grow hid H mu C H' mu C → RelU K cs (Zof H' mu C hid) mu v2 w → Q v2 H'
section
variable {K : PySem.W.Frag} {cs : List ClsD} {H : Hp} {mu : List Addr} {C : List Cl} {hid : List Addr} {w : U} {Q : VK} {v : V} {p : Addr} {o : HO}
theorem PQ.keep (k : WOk K cs H mu C hid) (e : RelU K cs (Zof H mu C hid) mu v w) (h : PQ K cs H mu C hid w Q) : Q v H := h v H k Grow.refl e
theorem PQ.new (k : WOk K cs H mu C hid) (hp : H p = none) (e : Up (Zof H mu C hid) mu (Zof (upd H p o) mu C hid) mu → Zof (upd H p o) mu C hid p = some o → RelU K cs (Zof (upd H p o) mu C hid) mu (.ref p) w)
    (h : PQ K cs H mu C hid w Q) : Q (.ref p) (upd H p o) := by
  obtain ⟨g, w', z⟩ := k.newZ (o := o) hp
  exact h _ _ w' g (e g.up z)
/-- .. made of the interpreter's outcome -/
theorem PQ.of {sg : L2.St} {o' : Option U} (h : Wp (EW sg H mu C hid) (lift o' C) (fun w C' => ∀ v' H' mu', WOk K cs H' mu' C' hid → Grow hid H mu C H' mu' C' → RelU K cs (Zof H' mu' C' hid) mu' v' w → Q v' H')) :
    ∃ w, o' = some w ∧ PQ K cs H mu C hid w Q := by
  obtain ⟨w, e, q⟩ := h.lift
  exact ⟨w, e, fun v2 H' k g r => q v2 H' mu k g r⟩
end
def bop : BOp → Operator
  | .add => .Add
  | .sub => .Sub
  | .mul => .Mult
  | .mod => .Mod
  | .fdiv => .FloorDiv
  | .pow => .Pow
theorem big_line {n : Nat} (h : n ≤ big) : n ≤ sizeLine := Nat.le_trans h (by decide)
theorem big_lt {n : Nat} (h : n < big) : n < sizeLine := Nat.lt_trans h (by decide)
section
variable {K : PySem.W.Frag} {P : Cx → Prop} {cs : List ClsD}
/-- a two-place operation on values that does what the interpreter's does -/
def BinOk (K : PySem.W.Frag) (cs : List ClsD) (P : Cx → Prop) (f : Value → Value → Sem Value) (q : List Cl → U → U → Option U) : Prop := ∃ r2 : R2, (∀ X, P X → OpR X f r2) ∧
  ∀ H mu C hid v u v' u' w, WOk K cs H mu C hid → RelU K cs (Zof H mu C hid) mu v u → RelU K cs (Zof H mu C hid) mu v' u' → q C u u' = some w → ∀ Q : VK, PQ K cs H mu C hid w Q → r2 v v' H Q
theorem relT_len {Z : Hp} {mu : List Addr} {xs : List V} {l : List U} (r : RelUs K cs Z mu xs l) : xs.length = l.length := r.length
theorem nil_of {Z : Hp} {mu : List Addr} {l : List U} (r : RelUs K cs Z mu [] l) : l = [] := by cases r; rfl
theorem nil_of' {Z : Hp} {mu : List Addr} {xs : List V} (r : RelUs K cs Z mu xs []) : xs = [] := by cases r; rfl
theorem rel_rep {Z : Hp} {mu : List Addr} {xs : List V} {l : List U} (r : RelUs K cs Z mu xs l) : ∀ n : Nat, RelUs K cs Z mu (List.replicate n xs).flatten (List.replicate n l).flatten
  | 0 => .nil
  | n + 1 => by
    rw [List.replicate_succ, List.replicate_succ, List.flatten_cons, List.flatten_cons]
    exact r.append (rel_rep r n)
theorem bin_add (F : Fam K P) : BinOk K cs P (binaryOp .Add) addU := by
  refine ⟨_, fun X hX => op_add.or ((F.k X hX ▸ op_catA (X := X)).or op_cat), fun H mu C hid v u v' u' w k h h' e Q q => ?_⟩
  unfold addU at e
  split at e
  · rename_i i j e1 e2
    cases e
    rw [rd_int e1] at h
    rw [rd_int e2] at h'
    exact .inl ⟨i, j, h.int_inv, h'.int_inv, q.keep k (.int _)⟩
  · rename_i l l' e1 e2
    split at e
    · rename_i hl
      obtain ⟨a, xs, rfl, s1, r1⟩ := rel_tup k h e1
      obtain ⟨b, ys, rfl, s2, r2⟩ := rel_tup k h' e2
      have e := Option.some.inj e
      refine .inr (.inl ⟨a, b, xs, ys, rfl, rfl, s1, s2, big_line (by rw [r1.length, r2.length]; exact hl), fun z => ?_, fun z1 z2 => ?_, fun z1 z2 p hp => ?_⟩)
      · subst z
        rw [nil_of r1] at e
        have e : u' = w := e
        subst e
        exact q.keep k h'
      · subst z2
        have := nil_of r2
        subst this
        rw [if_neg (fun z => z1 (nil_of' (List.isEmpty_iff.mp z ▸ r1)))] at e
        have e : u = w := e
        subst e
        exact q.keep k h
      · rw [if_neg (fun z => z1 (nil_of' (List.isEmpty_iff.mp z ▸ r1))), if_neg (fun z => z2 (nil_of' (List.isEmpty_iff.mp z ▸ r2)))] at e
        subst e
        exact q.new k hp fun up z => .tup z ((r1.append r2).up up)
    · cases e
  · unfold addL at e
    split at e
    · rename_i l l' e1 e2
      split at e
      · rename_i hl
        cases e
        obtain ⟨a, xs, rfl, s1, r1⟩ := rel_lstW k h e1
        obtain ⟨b, ys, rfl, s2, r2⟩ := rel_lstW k h' e2
        exact .inr (.inr ⟨a, b, xs, ys, rfl, rfl, s1, s2, big_line (by rw [r1.length, r2.length]; exact hl), fun p hp => q.new k hp fun up z => .lst z ((r1.append r2).up up)⟩)
      · cases e
    · cases e
theorem bin_sub : BinOk K cs P (binaryOp .Sub) (fun _ => subU) := by
  refine ⟨_, fun _ _ => op_sub, fun H mu C hid v u v' u' w k h h' e Q q => ?_⟩
  dsimp only at e
  unfold subU at e
  split at e
  · cases e
    exact ⟨_, _, h.int_inv, h'.int_inv, q.keep k (.int _)⟩
  · cases e
theorem bin_mul (F : Fam K P) : BinOk K cs P (binaryOp .Mult) mulU := by
  refine ⟨_, fun X hX => op_mulW.or ((F.k X hX ▸ op_repT (X := X)).or op_rep), fun H mu C hid v u v' u' w k h h' e Q q => ?_⟩
  unfold mulU at e
  split at e
  · rename_i i j e1
    split at e
    · rename_i hm
      cases e
      rw [rd_int e1] at h
      exact .inl ⟨i, j, h.int_inv, h'.int_inv, (show i.natAbs.log2 + j.natAbs.log2 < 1000000 from of_decide_eq_true hm), q.keep k (.int _)⟩
    · cases e
  · rename_i l n e1
    split at e
    · rename_i hc
      cases e
      obtain ⟨a, xs, rfl, s1, r1⟩ := rel_tup k h e1
      have hl := r1.length
      refine .inr (.inl ⟨a, n, xs, rfl, h'.int_inv, s1, fun z => ?_, hc.2.2.1, hc.2.2.2, by omega, fun p hp => q.new k hp fun up z => .tup z ((rel_rep r1 _).up up)⟩)
      subst z
      have := hc.2.1
      rw [← hl] at this
      exact absurd this (by simp)
    · cases e
  · unfold mulL at e
    split at e
    · rename_i l n e1 _ _
      split at e
      · rename_i hc
        cases e
        obtain ⟨a, xs, rfl, s1, r1⟩ := rel_lstW k h e1
        have hl := r1.length
        refine .inr (.inr ⟨a, n, xs, rfl, h'.int_inv, s1, by omega, by omega, big_line ?_, fun p hp => q.new k hp fun up z => .lst z ((rel_rep r1 _).up up)⟩)
        rw [hl]
        exact Nat.le_trans (Nat.mul_le_mul hc.1 (show n.toNat ≤ 1000 by omega)) (by decide)
      · cases e
    · cases e
theorem bin_mod : BinOk K cs P (binaryOp .Mod) (fun _ => modU) := by
  refine ⟨_, fun _ _ => op_mod, fun H mu C hid v u v' u' w k h h' e Q q => ?_⟩
  dsimp only at e
  unfold modU at e
  split at e
  · split at e
    · rename_i hc
      cases e
      exact ⟨_, _, h.int_inv, h'.int_inv, hc, q.keep k (.int _)⟩
    · cases e
  · cases e
theorem bin_fdiv : BinOk K cs P (binaryOp .FloorDiv) (fun _ => fdivU) := by
  refine ⟨_, fun _ _ => op_fdivW, fun H mu C hid v u v' u' w k h h' e Q q => ?_⟩
  dsimp only at e
  unfold fdivU at e
  split at e
  · split at e
    · rename_i hc
      cases e
      exact ⟨_, _, h.int_inv, h'.int_inv, hc, q.keep k (.int _)⟩
    · cases e
  · cases e
theorem bin_pow : BinOk K cs P (binaryOp .Pow) (fun _ => powU) := by
  refine ⟨_, fun _ _ => op_pow, fun H mu C hid v u v' u' w k h h' e Q q => ?_⟩
  dsimp only at e
  unfold powU at e
  split at e
  · split at e
    · rename_i hc
      cases e
      exact ⟨_, _, h.int_inv, h'.int_inv, hc, q.keep k (.int _)⟩
    · cases e
  · cases e
theorem bin_ok (F : Fam K P) (o : BOp) : BinOk K cs P (binaryOp (bop o)) (fun C => binU C o) := by
  cases o with
  | add => exact bin_add F
  | sub => exact bin_sub
  | mul => exact bin_mul F
  | mod => exact bin_mod
  | fdiv => exact bin_fdiv
  | pow => exact bin_pow
/-! ### comparisons -/
def cop : COp → CmpOp
  | .lt => .Lt
  | .le => .LtE
  | .gt => .Gt
  | .ge => .GtE
  | .eq => .Eq
  | .ne => .NotEq
  | .isin => .In
  | .notin => .NotIn
  | .isN => .Is
  | .notN => .IsNot
/-- a comparison that does what the interpreter's does -/
def CmpOk (K : PySem.W.Frag) (cs : List ClsD) (P : Cx → Prop) (f : Value → Value → Sem Value) (q : List Cl → U → U → Option Bool) : Prop := ∃ r2 : R2, (∀ X, P X → OpR X f r2) ∧
  ∀ H mu C hid v u v' u' b, WOk K cs H mu C hid → RelU K cs (Zof H mu C hid) mu v u → RelU K cs (Zof H mu C hid) mu v' u' → q C u u' = some b → ∀ Q : VK, Q (.bl b) H → r2 v v' H Q
theorem cmp_ord {f : Value → Value → Sem Value} {g : Int → Int → Bool} (ho : ∀ X, OpR X f (rI0 fun i j => .bl (g i j))) : CmpOk K cs P f (fun _ => ordU g) := by
  refine ⟨_, fun X _ => ho X, fun H mu C hid v u v' u' b k h h' e Q q => ?_⟩
  dsimp only at e
  unfold ordU at e
  split at e
  · cases e
    exact ⟨_, _, h.int_inv, h'.int_inv, q⟩
  · cases e
/-- in a dict -/
def rInDic : R2 := fun y x H Q => ∃ a o, x = .ref a ∧ DGet H a y o ∧ Q (.bl o.isSome) H
def rNotInDic : R2 := fun y x H Q => ∃ a o, x = .ref a ∧ DGet H a y o ∧ Q (.bl (!o.isSome)) H
theorem op_inDic {X : Cx} (hu : X.A.units + 1 < cLine) : OpR X (compareOp .In) rInDic := by
  intro pins s sg H x y v u Q I rx ry h
  obtain ⟨a, o, rfl, g, q⟩ := h
  obtain rfl : u = Value.ref a := ry
  exact d_in hu I g rx fun s3 I3 => ⟨.bl o.isSome, H, I3, rfl, q⟩
theorem op_notInDic {X : Cx} (hu : X.A.units + 1 < cLine) : OpR X (compareOp .NotIn) rNotInDic := by
  intro pins s sg H x y v u Q I rx ry h
  obtain ⟨a, o, rfl, g, q⟩ := h
  obtain rfl : u = Value.ref a := ry
  exact d_notIn hu I g rx fun s3 I3 => ⟨.bl (!o.isSome), H, I3, rfl, q⟩
theorem flat_val {Z : Hp} {mu : List Addr} {v : V} {u : U} (h : RelU K cs Z mu v u) (f : flatU u = true) : v = toV u ∧ flatV v = true := by
  cases h <;> first | exact ⟨rfl, rfl⟩ | cases f
theorem flat_vals {Z : Hp} {mu : List Addr} : ∀ {vs : List V} {us : List U}, RelUs K cs Z mu vs us → us.all flatU = true → vs = us.map toV ∧ vs.all flatV = true
  | _, _, .nil, _ => ⟨rfl, rfl⟩
  | _, _, .cons h r, f => by
    rw [List.all_cons, Bool.and_eq_true] at f
    obtain ⟨a1, a2⟩ := flat_val h f.1
    obtain ⟨b1, b2⟩ := flat_vals r f.2
    refine ⟨?_, ?_⟩
    · rw [List.map_cons, ← a1, ← b1]
    · rw [List.all_cons, a2, b2]
      rfl
def neg2 (r : Bool) (b : Bool) : Bool := if r then !b else b
theorem in_rules (neg : Bool) {H : Hp} {mu : List Addr} {C : List Cl} {hid : List Addr} {v v' : V} {u u' : U} {b : Bool} {Q : VK} (w : WOk K cs H mu C hid) (h : RelU K cs (Zof H mu C hid) mu v u) (h' : RelU K cs (Zof H mu C hid) mu v' u')
    (e : inU C u u' = some b) (q : Q (.bl (if neg then !b else b)) H) :
    (∃ d ds, Dp K H v d ∧ Dp K H v' (.list ds) ∧ SeqAt.shaped d = true ∧ SeqAt.shaped (.list ds) = true ∧ Q (.bl (if neg then !(ds.any fun z => PyData.eqv z d) else ds.any fun z => PyData.eqv z d)) H) ∨ rIn K neg v v' H Q ∨
      ∃ a o, v' = .ref a ∧ DGet H a v o ∧ Q (.bl (if neg then !o.isSome else o.isSome)) H := by
  unfold inU at e
  split at e
  · rename_i l e1
    split at e
    · rename_i d ds e2 e3
      split at e
      · rename_i hs
        cases e
        obtain ⟨a, xs, rfl, s1, r1⟩ := rel_lst w h' e1
        exact .inl ⟨d, ds, dp_rd w h e2, .lst s1 (dps_of zof_le r1 e3), hs.1, hs.2, q⟩
      · cases e
    · cases e
  · rename_i l e1
    split at e
    · rename_i hf
      cases e
      obtain ⟨a, xs, rfl, s1, r1⟩ := rel_tup w h' e1
      obtain ⟨f1, f2⟩ := flat_val h hf.1
      obtain ⟨g1, g2⟩ := flat_vals r1 hf.2
      refine .inr (.inl ⟨a, xs, rfl, .inr s1, f2, g2, ?_⟩)
      rw [f1, g1]
      exact q
    · cases e
  · rename_i t l e1
    split at e
    · rename_i hk
      cases e
      obtain ⟨a, rfl, _, q2⟩ := dget_rule w h' h e1 hk
      refine .inr (.inr ?_)
      rcases q2 with ⟨n1, n2⟩ | ⟨x, y, n1, n2, _⟩
      · rw [n1] at q
        exact ⟨a, none, rfl, n2, q⟩
      · rw [n1] at q
        exact ⟨a, some y, rfl, n2, q⟩
    · cases e
  · cases e
theorem cmp_in (F : Fam K P) : CmpOk K cs P (compareOp .In) inU := by
  refine ⟨_, fun X hX => (F.k X hX ▸ op_inD (F.hu X hX)).or ((F.k X hX ▸ op_in_seq (X := X)).or (op_inDic (by have := F.hu X hX; omega))), fun H mu C hid v u v' u' b k h h' e Q q => ?_⟩
  exact in_rules false k h h' e q
theorem cmp_notin (F : Fam K P) : CmpOk K cs P (compareOp .NotIn) (fun C a b => (inU C a b).map (!·)) := by
  refine ⟨_, fun X hX => (F.k X hX ▸ op_notInD (F.hu X hX)).or ((F.k X hX ▸ op_notIn_seq (X := X)).or (op_notInDic (by have := F.hu X hX; omega))), fun H mu C hid v u v' u' b k h h' e Q q => ?_⟩
  dsimp only at e
  cases e1 : inU C u u' with
  | none => rw [e1] at e; cases e
  | some b' =>
    rw [e1] at e
    cases e
    exact in_rules true k h h' e1 q
theorem cmp_eq (F : Fam K P) : CmpOk K cs P (compareOp .Eq) eqU :=
  ⟨_, fun X hX => F.k X hX ▸ op_eqD (X := X) (by have := F.hu X hX; omega), fun H mu C hid v u v' u' b k h h' e Q q => eq_rule k h h' e q⟩
theorem cmp_ne (F : Fam K P) : CmpOk K cs P (compareOp .NotEq) (fun C a b => (eqU C a b).map (!·)) := by
  refine ⟨_, fun X hX => F.k X hX ▸ op_neD (X := X) (by have := F.hu X hX; omega), fun H mu C hid v u v' u' b k h h' e Q q => ?_⟩
  dsimp only at e
  cases e1 : Py.eqU C u u' with
  | none => rw [e1] at e; cases e
  | some b' =>
    rw [e1] at e
    cases e
    exact ne_rule k h h' e1 q
theorem non_iff {Z : Hp} {mu : List Addr} {v : V} {u : U} (h : RelU K cs Z mu v u) : (v = .non) ↔ u = .non := by
  cases h <;> simp
theorem cmp_isN : CmpOk K cs P (compareOp .Is) (fun C => cmpU C .isN) := by
  refine ⟨_, fun _ _ => op_isN, fun H mu C hid v u v' u' b k h h' e Q q => ?_⟩
  dsimp only [cmpU] at e
  split at e
  · cases e
    exact ⟨h'.non_inv, by rw [h.non_inv]; exact q⟩
  · rename_i hn
    cases e
    refine ⟨h'.non_inv, ?_⟩
    rw [decide_eq_false (fun z => hn ((non_iff h).mp z))]
    exact q
  · cases e
theorem cmp_notN : CmpOk K cs P (compareOp .IsNot) (fun C => cmpU C .notN) := by
  refine ⟨_, fun _ _ => op_notN, fun H mu C hid v u v' u' b k h h' e Q q => ?_⟩
  dsimp only [cmpU] at e
  split at e
  · cases e
    exact ⟨h'.non_inv, by rw [h.non_inv]; exact q⟩
  · rename_i hn
    cases e
    refine ⟨h'.non_inv, ?_⟩
    rw [decide_eq_false (fun z => hn ((non_iff h).mp z))]
    exact q
  · cases e
theorem cmp_ok (F : Fam K P) (o : COp) : CmpOk K cs P (compareOp (cop o)) (fun C => cmpU C o) := by
  cases o with
  | lt => exact cmp_ord fun _ => op_lt
  | le => exact cmp_ord fun _ => op_le
  | gt => exact cmp_ord fun _ => op_gt
  | ge => exact cmp_ord fun _ => op_ge
  | eq => exact cmp_eq F
  | ne => exact cmp_ne F
  | isin => exact cmp_in F
  | notin => exact cmp_notin F
  | isN => exact cmp_isN
  | notN => exact cmp_notN
end
/-! ### expressions made of these -/
section
variable {K : PySem.W.Frag} {P : Cx → Prop} {cs : List ClsD} {a b c : Expr} {pos : Pos} {ea eb ec : E} {g : Gm}
theorem snd_bin (F : Fam K P) {o : BOp} (ha : SndE K cs P a (evE g ea)) (hb : SndE K cs P b (evE g eb)) : SndE K cs P (.BinOp a (bop o) b pos) (evE g (.bin o ea eb)) := by
  obtain ⟨r2, ho, hr⟩ := bin_ok (cs := cs) F o
  obtain ⟨t, p, s⟩ := ha
  obtain ⟨t', p', s'⟩ := hb
  refine ⟨_, fun X hX => pe_op (ho X hX) (p X hX) (p' X hX), fun sg H r mu C hid st Q w => ?_⟩
  simp only [evE] at w
  refine s sg H r mu C hid st _ (w.bind.mono (fun _ _ _ e => e) fun u C1 w1 v H1 mu1 k1 g1 e1 => ?_)
  refine s' sg H1 r mu1 C1 hid (st.grow k1 g1) _ (w1.bind.mono (EW.dn g1) fun u' C2 w2 v' H2 mu2 k2 g2 e2 => ?_)
  obtain ⟨w', e3, q⟩ := w2.lift
  exact hr H2 mu2 C2 hid v u v' u' w' k2 (e1.up g2.up) e2 e3 _ fun v2 H3 k3 g3 r3 => q _ _ _ k3 ((g1.trans g2).trans g3) r3
theorem snd_cmp (F : Fam K P) {o : COp} (ha : SndE K cs P a (evE g ea)) (hb : SndE K cs P b (evE g eb)) (hm : behindInMarks (cop o) b = false) : SndE K cs P (.Compare a [cop o] [b] pos) (evE g (.cmp o ea eb)) := by
  obtain ⟨r2, ho, hr⟩ := cmp_ok (cs := cs) F o
  obtain ⟨t, p, s⟩ := ha
  obtain ⟨t', p', s'⟩ := hb
  refine ⟨_, fun X hX => pe_cmpR (ho X hX) (p X hX) (p' X hX) hm, fun sg H r mu C hid st Q w => ?_⟩
  simp only [evE] at w
  refine s sg H r mu C hid st _ (w.bind.mono (fun _ _ _ e => e) fun u C1 w1 v H1 mu1 k1 g1 e1 => ?_)
  refine s' sg H1 r mu1 C1 hid (st.grow k1 g1) _ (w1.bind.mono (EW.dn g1) fun u' C2 w2 v' H2 mu2 k2 g2 e2 => ?_)
  obtain ⟨w', e3, q⟩ := w2.lift
  cases e4 : cmpU C2 o u u' with
  | none => rw [e4] at e3; cases e3
  | some b' =>
    rw [e4] at e3
    cases e3
    exact hr H2 mu2 C2 hid v u v' u' b' k2 (e1.up g2.up) e2 e4 _ (q _ _ _ k2 (g1.trans g2) (.bl _))
theorem sndT_cmp (F : Fam K P) {o : COp} (ha : SndE K cs P a (evE g ea)) (hb : SndE K cs P b (evE g eb)) (hm : behindInMarks (cop o) b = false) : SndT K cs P (.Compare a [cop o] [b] pos) (evT g (.cmp o ea eb)) := by
  obtain ⟨r2, ho, hr⟩ := cmp_ok (cs := cs) F o
  obtain ⟨t, p, s⟩ := ha
  obtain ⟨t', p', s'⟩ := hb
  refine ⟨_, fun X hX => pt_cmpR (ho X hX) (p X hX) (p' X hX) hm, fun sg H r mu C hid st Q w => ?_⟩
  simp only [evT] at w
  refine s sg H r mu C hid st _ (w.bind.mono (fun _ _ _ e => e) fun u C1 w1 v H1 mu1 k1 g1 e1 => ?_)
  refine s' sg H1 r mu1 C1 hid (st.grow k1 g1) _ (w1.bind.mono (EW.dn g1) fun u' C2 w2 v' H2 mu2 k2 g2 e2 => ?_)
  obtain ⟨b', e3, q⟩ := w2.lift
  exact hr H2 mu2 C2 hid v u v' u' b' k2 (e1.up g2.up) e2 e3 _ ⟨b', rfl, q H2 mu2 k2 (g1.trans g2)⟩
theorem snd_chain (F : Fam K P) {o p : COp} (ha : SndE K cs P a (evE g ea)) (hb : SndE K cs P b (evE g eb)) (hc : SndE K cs P c (evE g ec)) (hm : lastMarks [cop o, cop p] [b, c] = false) :
    SndE K cs P (.Compare a [cop o, cop p] [b, c] pos) (evE g (.chain o p ea eb ec)) := by
  obtain ⟨r2, ho, hr⟩ := cmp_ok (cs := cs) F o
  obtain ⟨r3, ho', hr'⟩ := cmp_ok (cs := cs) F p
  obtain ⟨t, pa, s⟩ := ha
  obtain ⟨t', pb, s'⟩ := hb
  obtain ⟨t2, pc, s2⟩ := hc
  refine ⟨_, fun X hX => pe_chain (ho X hX) (ho' X hX) (pa X hX) (pb X hX) (pc X hX) hm, fun sg H r mu C hid st Q w => ?_⟩
  simp only [evE] at w
  refine s sg H r mu C hid st _ (w.bind.mono (fun _ _ _ e => e) fun u C1 w1 v H1 mu1 k1 g1 e1 => ?_)
  refine s' sg H1 r mu1 C1 hid (st.grow k1 g1) _ (w1.bind.mono (EW.dn g1) fun u' C2 w2 v' H2 mu2 k2 g2 e2 => ?_)
  obtain ⟨b', e3, q⟩ := w2.bind.lift
  refine hr H2 mu2 C2 hid v u v' u' b' k2 (e1.up g2.up) e2 e3 _ ⟨b', rfl, ?_⟩
  cases b' with
  | false => exact iteF (q _ _ _ k2 (g1.trans g2) (.bl false))
  | true =>
    refine iteT (s2 sg H2 r mu2 C2 hid (st.grow k2 (g1.trans g2)) _ (q.bind.mono (EW.dn (g1.trans g2)) fun u3 C3 w3 v3 H3 mu3 k3 g3 e5 => ?_))
    obtain ⟨b2, e4, q2⟩ := w3.lift
    cases e6 : cmpU C3 p u' u3 with
    | none => rw [e6] at e4; cases e4
    | some b3 =>
      rw [e6] at e4
      cases e4
      exact hr' H3 mu3 C3 hid v' u' v3 u3 b3 k3 (e2.up g3.up) e5 e6 _ (q2 _ _ _ k3 ((g1.trans g2).trans g3) (.bl _))
theorem sndT_chain (F : Fam K P) {o p : COp} (ha : SndE K cs P a (evE g ea)) (hb : SndE K cs P b (evE g eb)) (hc : SndE K cs P c (evE g ec)) (hm : lastMarks [cop o, cop p] [b, c] = false) :
    SndT K cs P (.Compare a [cop o, cop p] [b, c] pos) (evT g (.chain o p ea eb ec)) := by
  obtain ⟨r2, ho, hr⟩ := cmp_ok (cs := cs) F o
  obtain ⟨r3, ho', hr'⟩ := cmp_ok (cs := cs) F p
  obtain ⟨t, pa, s⟩ := ha
  obtain ⟨t', pb, s'⟩ := hb
  obtain ⟨t2, pc, s2⟩ := hc
  refine ⟨_, fun X hX => pt_chain (ho X hX) (ho' X hX) (pa X hX) (pb X hX) (pc X hX) hm, fun sg H r mu C hid st Q w => ?_⟩
  simp only [evT] at w
  refine s sg H r mu C hid st _ (w.bind.mono (fun _ _ _ e => e) fun u C1 w1 v H1 mu1 k1 g1 e1 => ?_)
  refine s' sg H1 r mu1 C1 hid (st.grow k1 g1) _ (w1.bind.mono (EW.dn g1) fun u' C2 w2 v' H2 mu2 k2 g2 e2 => ?_)
  obtain ⟨b', e3, q⟩ := w2.bind.lift
  refine hr H2 mu2 C2 hid v u v' u' b' k2 (e1.up g2.up) e2 e3 _ ⟨b', rfl, ?_⟩
  cases b' with
  | false => exact iteF ⟨false, rfl, q _ _ k2 (g1.trans g2)⟩
  | true =>
    refine iteT (s2 sg H2 r mu2 C2 hid (st.grow k2 (g1.trans g2)) _ (q.bind.mono (EW.dn (g1.trans g2)) fun u3 C3 w3 v3 H3 mu3 k3 g3 e5 => ?_))
    obtain ⟨b2, e4, q2⟩ := w3.lift
    exact hr' H3 mu3 C3 hid v' u' v3 u3 b2 k3 (e2.up g3.up) e5 e4 _ ⟨b2, rfl, q2 _ _ k3 ((g1.trans g2).trans g3)⟩
end
end Py
namespace Py
open PySem Spec PyProof.Rows L2
section
variable {K : PySem.W.Frag} {P : Cx → Prop} {cs : List ClsD} {a b c : Expr} {pos : Pos} {ea eb ec : E} {g : Gm} {es : List Expr} {xs : Es} {tt : T}
theorem snd_neg (ha : SndE K cs P a (evE g ea)) : SndE K cs P (.UnaryOp .USub a pos) (evE g (.neg ea)) := by
  obtain ⟨t, p, s⟩ := ha
  refine ⟨_, fun X hX => pe_un un_neg (p X hX), fun sg H r mu C hid st Q w => ?_⟩
  simp only [evE] at w
  refine s sg H r mu C hid st _ (w.bind.mono (fun _ _ _ e => e) fun u C1 w1 v H1 mu1 k1 g1 e1 => ?_)
  cases u with
  | int i => exact ⟨i, e1.int_inv, w1 _ _ _ k1 g1 (.int _)⟩
  | _ => exact w1.elim
theorem snd_and {rest : List Expr} (ha : SndE K cs P a (evE g ea)) (hb : SndE K cs P (.BoolOp .And (b :: rest) pos) (evE g eb)) : SndE K cs P (.BoolOp .And (a :: b :: rest) pos) (evE g (.and ea eb)) := by
  obtain ⟨t, p, s⟩ := ha
  obtain ⟨t', p', s'⟩ := hb
  refine ⟨_, fun X hX => pe_and (p X hX) (p' X hX), fun sg H r mu C hid st Q w => ?_⟩
  simp only [evE] at w
  refine s sg H r mu C hid st _ (w.bind.mono (fun _ _ _ e => e) fun u C1 w1 v H1 mu1 k1 g1 e1 => ?_)
  cases u with
  | bl k =>
    refine ⟨k, e1.bl_inv, ?_⟩
    cases k with
    | true => exact iteT (s' sg H1 r mu1 C1 hid (st.grow k1 g1) _ (w1.mono (EW.dn g1) fun u2 C2 q v2 H2 mu2 k2 g2 e2 => q v2 H2 mu2 k2 (g1.trans g2) e2))
    | false => exact iteF (w1 _ _ _ k1 g1 (.bl _))
  | _ => exact w1.elim
theorem snd_or {rest : List Expr} (ha : SndE K cs P a (evE g ea)) (hb : SndE K cs P (.BoolOp .Or (b :: rest) pos) (evE g eb)) : SndE K cs P (.BoolOp .Or (a :: b :: rest) pos) (evE g (.or ea eb)) := by
  obtain ⟨t, p, s⟩ := ha
  obtain ⟨t', p', s'⟩ := hb
  refine ⟨_, fun X hX => pe_or (p X hX) (p' X hX), fun sg H r mu C hid st Q w => ?_⟩
  simp only [evE] at w
  refine s sg H r mu C hid st _ (w.bind.mono (fun _ _ _ e => e) fun u C1 w1 v H1 mu1 k1 g1 e1 => ?_)
  cases u with
  | bl k =>
    refine ⟨k, e1.bl_inv, ?_⟩
    cases k with
    | false => exact iteF (s' sg H1 r mu1 C1 hid (st.grow k1 g1) _ (w1.mono (EW.dn g1) fun u2 C2 q v2 H2 mu2 k2 g2 e2 => q v2 H2 mu2 k2 (g1.trans g2) e2))
    | true => exact iteT (w1 _ _ _ k1 g1 (.bl _))
  | _ => exact w1.elim
theorem snd_one {op : BoolOp} (ha : SndE K cs P a (evE g ea)) : SndE K cs P (.BoolOp op [a] pos) (evE g ea) :=
  let ⟨t, p, s⟩ := ha
  ⟨t, fun X hX => pe_one (p X hX), s⟩
theorem snd_not (ha : SndE K cs P a (evE g ea)) : SndE K cs P (.UnaryOp .Not a pos) (evE g (.not ea)) := by
  obtain ⟨t, p, s⟩ := ha
  refine ⟨_, fun X hX => pe_not (p X hX), fun sg H r mu C hid st Q w => ?_⟩
  simp only [evE] at w
  refine s sg H r mu C hid st _ (w.bind.mono (fun _ _ _ e => e) fun u C1 w1 v H1 mu1 k1 g1 e1 => ?_)
  cases u with
  | bl i => exact ⟨i, e1.bl_inv, w1 _ _ _ k1 g1 (.bl _)⟩
  | _ => exact w1.elim
theorem snd_ife (hc : SndT K cs P c (evT g tt)) (ha : SndE K cs P a (evE g ea)) (hb : SndE K cs P b (evE g eb)) : SndE K cs P (.IfExp c a b pos) (evE g (.ife tt ea eb)) := by
  obtain ⟨t, p, s⟩ := hc
  obtain ⟨t1, p1, s1⟩ := ha
  obtain ⟨t2, p2, s2⟩ := hb
  refine ⟨_, fun X hX => pe_ifExp (p X hX) (p1 X hX) (p2 X hX), fun sg H r mu C hid st Q w => ?_⟩
  simp only [evE] at w
  refine s sg H r mu C hid st _ (w.bind.mono (fun _ _ _ e => e) fun k C1 w1 H1 mu1 k1 g1 => ?_)
  cases k with
  | true => exact iteT (s1 sg H1 r mu1 C1 hid (st.grow k1 g1) _ (Wp.mono w1 (EW.dn g1) fun u2 C2 q v2 H2 mu2 k2 g2 e2 => q v2 H2 mu2 k2 (g1.trans g2) e2))
  | false => exact iteF (s2 sg H1 r mu1 C1 hid (st.grow k1 g1) _ (Wp.mono w1 (EW.dn g1) fun u2 C2 q v2 H2 mu2 k2 g2 e2 => q v2 H2 mu2 k2 (g1.trans g2) e2))
/-! ### tests -/
/-- a test, whatever its whole is -/
def SndW (K : PySem.W.Frag) (cs : List ClsD) (P : Cx → Prop) (x : Expr) (f : Sl → List Cl → Rs Bool) : Prop := ∃ t : TT, (∀ X, P X → PW X x t) ∧ ∀ sg H r mu C hid, StOk K cs sg H r mu C hid → ∀ Q : Bool → Hp → Prop,
  Wp (EW sg H mu C hid) (f r C) (fun b C' => ∀ H' mu', WOk K cs H' mu' C' hid → Grow hid H mu C H' mu' C' → Q b H') → t sg H Q
theorem SndW.t {f : Sl → List Cl → Rs Bool} (h : SndW K cs P a f) : SndT K cs P a f := let ⟨t, p, s⟩ := h; ⟨t, fun X hX => (p X hX).pt, s⟩
theorem sndW_and1 {f : Sl → List Cl → Rs Bool} (h : SndT K cs P a f) : SndW K cs P (.BoolOp .And [a] pos) f := let ⟨t, p, s⟩ := h; ⟨t, fun X hX => pw_and1 (p X hX), s⟩
theorem sndW_or1 {f : Sl → List Cl → Rs Bool} (h : SndT K cs P a f) : SndW K cs P (.BoolOp .Or [a] pos) f := let ⟨t, p, s⟩ := h; ⟨t, fun X hX => pw_or1 (p X hX), s⟩
theorem sndW_and {t1 t2 : T} {rest : List Expr} (ha : SndT K cs P a (evT g t1)) (hb : SndW K cs P (.BoolOp .And (b :: rest) pos) (evT g t2)) : SndW K cs P (.BoolOp .And (a :: b :: rest) pos) (evT g (.and t1 t2)) := by
  obtain ⟨t, p, s⟩ := ha
  obtain ⟨t', p', s'⟩ := hb
  refine ⟨_, fun X hX => pw_and (p X hX) (p' X hX), fun sg H r mu C hid st Q w => ?_⟩
  simp only [evT] at w
  refine s sg H r mu C hid st _ (w.bind.mono (fun _ _ _ e => e) fun k C1 w1 H1 mu1 k1 g1 => ?_)
  cases k with
  | true => exact iteT (s' sg H1 r mu1 C1 hid (st.grow k1 g1) _ (Wp.mono w1 (EW.dn g1) fun u2 C2 q H2 mu2 k2 g2 => q H2 mu2 k2 (g1.trans g2)))
  | false => exact iteF (w1 _ _ k1 g1)
theorem sndW_or {t1 t2 : T} {rest : List Expr} (ha : SndT K cs P a (evT g t1)) (hb : SndW K cs P (.BoolOp .Or (b :: rest) pos) (evT g t2)) : SndW K cs P (.BoolOp .Or (a :: b :: rest) pos) (evT g (.or t1 t2)) := by
  obtain ⟨t, p, s⟩ := ha
  obtain ⟨t', p', s'⟩ := hb
  refine ⟨_, fun X hX => pw_or (p X hX) (p' X hX), fun sg H r mu C hid st Q w => ?_⟩
  simp only [evT] at w
  refine s sg H r mu C hid st _ (w.bind.mono (fun _ _ _ e => e) fun k C1 w1 H1 mu1 k1 g1 => ?_)
  cases k with
  | false => exact iteF (s' sg H1 r mu1 C1 hid (st.grow k1 g1) _ (Wp.mono w1 (EW.dn g1) fun u2 C2 q H2 mu2 k2 g2 => q H2 mu2 k2 (g1.trans g2)))
  | true => exact iteT (w1 _ _ k1 g1)
theorem sndT_not {t1 : T} (ha : SndT K cs P a (evT g t1)) : SndT K cs P (.UnaryOp .Not a pos) (evT g (.not t1)) := by
  obtain ⟨t, p, s⟩ := ha
  refine ⟨_, fun X hX => pt_not (p X hX), fun sg H r mu C hid st Q w => ?_⟩
  simp only [evT] at w
  exact s sg H r mu C hid st _ (w.bind.mono (fun _ _ _ e => e) fun k C1 w1 H1 mu1 k1 g1 => w1 _ _ k1 g1)
/-- a value's truth -/
theorem sndT_tru (ha : SndE K cs P a (evE g ea)) (F : Fam K P) (he : ∀ X, P X → ∀ whole, isTrue a X.env whole = (do let v ← whole; standAt a.pos; holding [v] (truthy v))) : SndT K cs P a (evT g (.tru ea)) := by
  obtain ⟨t, p, s⟩ := ha
  refine ⟨_, fun X hX => F.k X hX ▸ pt_truth (p X hX) (he X hX), fun sg H r mu C hid st Q w => ?_⟩
  simp only [evT] at w
  refine s sg H r mu C hid st _ (w.bind.mono (fun _ _ _ e => e) fun u C1 w1 v H1 mu1 k1 g1 e1 => ?_)
  split at w1
  · rename_i e2
    rw [rd_non e2] at e1
    exact ⟨false, by rw [e1.non_inv]; rfl, w1 _ _ k1 g1⟩
  · rename_i b e2
    rw [rd_bl e2] at e1
    exact ⟨b, by rw [e1.bl_inv]; rfl, w1 _ _ k1 g1⟩
  · rename_i i e2
    rw [rd_int e2] at e1
    exact ⟨i != 0, by rw [e1.int_inv]; rfl, w1 _ _ k1 g1⟩
  · rename_i l e2
    obtain ⟨p, ys, rfl, s1, r1⟩ := rel_lst k1 e1 e2
    refine ⟨!l.isEmpty, .inl ⟨ys, s1, ?_⟩, w1 _ _ k1 g1⟩
    cases r1 <;> rfl
  · rename_i l e2
    obtain ⟨p, ys, rfl, s1, r1⟩ := rel_tup k1 e1 e2
    refine ⟨!l.isEmpty, .inr (.inl ⟨ys, s1, ?_⟩), w1 _ _ k1 g1⟩
    cases r1 <;> rfl
  · exact w1.elim
/-! ### arguments, displays -/
theorem sndA_nil : SndA K cs P [] (evEs g .nil) := ⟨_, fun _ _ => pa_nil, fun sg H r mu C hid st Q w => by
  simp only [evEs] at w
  exact w _ _ _ st.w Grow.refl .nil⟩
theorem sndA_cons (ha : SndE K cs P a (evE g ea)) (hs : SndA K cs P es (evEs g xs)) (he : ∀ X, P X → starEach (a :: es) X.env = (false, eval a X.env) :: starEach es X.env) : SndA K cs P (a :: es) (evEs g (.cons ea xs)) := by
  obtain ⟨t, p, s⟩ := ha
  obtain ⟨t', p', s'⟩ := hs
  refine ⟨_, fun X hX => pa_cons (p X hX) (p' X hX) (he X hX), fun sg H r mu C hid st Q w => ?_⟩
  simp only [evEs] at w
  refine s sg H r mu C hid st _ (w.bind.mono (fun _ _ _ e => e) fun u C1 w1 v H1 mu1 k1 g1 e1 => ?_)
  refine s' sg H1 r mu1 C1 hid (st.grow k1 g1) _ (w1.bind.mono (EW.dn g1) fun us C2 w2 vs H2 mu2 k2 g2 e2 => ?_)
  exact w2 _ _ _ k2 (g1.trans g2) (.cons (e1.up g2.up) e2)
theorem snd_tup {k : Nat} (ha : SndA K cs P es (evEs g xs)) : SndE K cs P (.Tuple es k pos) (evE g (.tup xs)) := by
  obtain ⟨t, p, s⟩ := ha
  refine ⟨_, fun X hX => pe_tup (p X hX), fun sg H r mu C hid st Q w => ?_⟩
  simp only [evE] at w
  refine s sg H r mu C hid st _ (w.bind.mono (fun _ _ _ e => e) fun us C1 w1 vs H1 mu1 k1 g1 e1 => ?_)
  split at w1
  · rename_i hl
    refine ⟨big_line (by rw [e1.length]; exact hl), fun p hp => ?_⟩
    obtain ⟨g2, k2, z⟩ := k1.newZ (o := .tup vs) hp
    exact w1 _ _ _ k2 (g1.trans g2) (.tup z (e1.up g2.up))
  · exact w1.elim
/-- a new list or dict: data, or a live one -/
theorem alloc_lst {sg : L2.St} {H0 H : Hp} {mu0 mu : List Addr} {C0 C : List Cl} {hid : List Addr} {Q : VK} {m : Bool} {vs : List V} {l : List U} {p : Addr} (k : WOk K cs H mu C hid) (g : Grow hid H0 mu0 C0 H mu C) (hp : H p = none) (r : RelUs K cs (Zof H mu C hid) mu vs l)
    (w : Wp (EW sg H0 mu0 C0 hid) (alloc m (.lst l) C) (fun w C' => ∀ v' H' mu', WOk K cs H' mu' C' hid → Grow hid H0 mu0 C0 H' mu' C' → RelU K cs (Zof H' mu' C' hid) mu' v' w → Q v' H')) : Q (.ref p) (upd H p (.lst vs)) := by
  cases m with
  | false =>
    obtain ⟨g2, k2, z⟩ := k.newZ (o := .lst vs) hp
    exact w _ _ _ k2 (g.trans g2) (.lst z (r.up g2.up))
  | true =>
    obtain ⟨g2, k2⟩ := k.newC (o := .lst vs) (c := .lst l) hp (.lst r)
    exact w _ _ _ k2 (g.trans g2) (.cel (by rw [← k.len, List.getElem?_concat_length]))
theorem snd_lst {m : Bool} (ha : SndA K cs P es (evEs g xs)) : SndE K cs P (.List es pos) (evE g (.lst m xs)) := by
  obtain ⟨t, p, s⟩ := ha
  refine ⟨_, fun X hX => pe_lst (p X hX), fun sg H r mu C hid st Q w => ?_⟩
  simp only [evE] at w
  refine s sg H r mu C hid st _ (w.bind.mono (fun _ _ _ e => e) fun us C1 w1 vs H1 mu1 k1 g1 e1 => ?_)
  split at w1
  · rename_i hl
    exact ⟨big_line (by rw [e1.length]; exact hl), fun p hp => alloc_lst k1 g1 hp e1 w1⟩
  · exact w1.elim
theorem snd_dnew {m t : Bool} : SndE K cs P (.Dict [] [] pos) (evE g (.dnew m t)) := by
  cases t with
  | false =>
    refine ⟨_, fun _ _ => pe_dnewK, fun sg H r mu C hid st Q w p hp => ?_⟩
    simp only [evE] at w
    cases m with
    | false =>
      obtain ⟨g2, k2, z⟩ := st.w.newZ (o := .dK []) hp
      exact w _ _ _ k2 g2 (.dicK (.inl z) .nil)
    | true =>
      obtain ⟨g2, k2⟩ := st.w.newC (o := .dK []) (c := .dic false []) hp (.dicK .nil)
      exact w _ _ _ k2 g2 (.cel (by rw [← st.w.len, List.getElem?_concat_length]))
  | true =>
    refine ⟨_, fun _ _ => pe_dnewT, fun sg H r mu C hid st Q w p hp => ?_⟩
    simp only [evE] at w
    cases m with
    | false =>
      obtain ⟨g2, k2, z⟩ := st.w.newZ (o := .dT []) hp
      exact w _ _ _ k2 g2 (.dicT (.inl z) .nil)
    | true =>
      obtain ⟨g2, k2⟩ := st.w.newC (o := .dT []) (c := .dic true []) hp (.dicT .nil)
      exact w _ _ _ k2 g2 (.cel (by rw [← st.w.len, List.getElem?_concat_length]))
/-! ### subscripts -/
theorem atI_rel {Z : Hp} {mu : List Addr} {vs : List V} {us : List U} (r : RelUs K cs Z mu vs us) {i : Int} {u : U} (e : atI us i = some u) : ∃ v, atI vs i = some v ∧ RelU K cs Z mu v u := by
  unfold atI at *
  rw [r.length]
  cases q : ixN us.length i with
  | none => rw [q] at e; cases e
  | some j =>
    rw [q] at e
    exact r.get j u e
/-- a dict's item, by values -/
def rIxDic : R2 := fun x y H Q => ∃ a v, x = .ref a ∧ DGet H a y (some v) ∧ Q v H
theorem ix_dic {X : Cx} (hu : X.A.units + 1 < cLine) : IxR X rIxDic := by
  intro value slice pins s sg H x y v u Q I rx ry h hs
  obtain ⟨a, z, rfl, gg, q⟩ := h
  obtain rfl : v = Value.ref a := rx
  exact tail_any (dict_typeIs I gg) PySem.F.slot_dict_getitem.lookup (d_getItem hu I gg ry fun w' s3 I3 rw' => ⟨z, H, I3, rw', q⟩) hs
theorem snd_ix (F : Fam K P) (ha : SndE K cs P a (evE g ea)) (hb : SndE K cs P b (evE g eb)) (hp : PlainIx b) : SndE K cs P (.Subscript a b pos) (evE g (.ix ea eb)) := by
  obtain ⟨t, p, s⟩ := ha
  obtain ⟨t', p', s'⟩ := hb
  refine ⟨_, fun X hX => pe_ix ((F.k X hX ▸ ix_list (X := X)).or ((F.k X hX ▸ ix_tup (X := X)).or (ix_dic (by have := F.hu X hX; omega)))) (p X hX) (p' X hX) hp, fun sg H r mu C hid st Q w => ?_⟩
  simp only [evE] at w
  refine s sg H r mu C hid st _ (w.bind.mono (fun _ _ _ e => e) fun u C1 w1 v H1 mu1 k1 g1 e1 => ?_)
  refine s' sg H1 r mu1 C1 hid (st.grow k1 g1) _ (w1.bind.mono (EW.dn g1) fun u' C2 w2 v' H2 mu2 k2 g2 e2 => ?_)
  obtain ⟨w', e3, q⟩ := w2.lift
  have e1 := e1.up g2.up
  unfold ixU at e3
  split at e3
  · rename_i l i e4
    obtain ⟨p, ys, rfl, s1, r1⟩ := rel_tup k2 e1 e4
    obtain ⟨z, e5, e6⟩ := atI_rel r1 e3
    exact .inr (.inl ⟨p, ys, i, z, rfl, e2.int_inv, s1, e5, q _ _ _ k2 (g1.trans g2) e6⟩)
  · rename_i l i e4
    obtain ⟨p, ys, rfl, s1, r1⟩ := rel_lst k2 e1 e4
    obtain ⟨z, e5, e6⟩ := atI_rel r1 e3
    exact .inl ⟨p, ys, i, z, rfl, e2.int_inv, s1, e5, q _ _ _ k2 (g1.trans g2) e6⟩
  · rename_i tk l e4
    split at e3
    · rename_i hk
      obtain ⟨p, rfl, _, q2⟩ := dget_rule k2 e1 e2 e4 hk
      rcases q2 with ⟨n1, _⟩ | ⟨x, y, n1, n2, n3⟩
      · rw [n1] at e3
        cases e3
      · rw [n1] at e3
        cases e3
        exact .inr (.inr ⟨p, y, rfl, n2, q _ _ _ k2 (g1.trans g2) n3⟩)
    · cases e3
  · cases e3
/-! ### slices -/
theorem sndO_no : SndO K cs P none (evO g .no) := ⟨_, fun _ _ => po_none, fun sg H r mu C hid st Q w => by
  simp only [evO] at w
  exact w _ _ st.w Grow.refl⟩
theorem sndO_of (ha : SndE K cs P a (evE g ea)) : SndO K cs P (some a) (evO g (.of ea)) := by
  obtain ⟨t, p, s⟩ := ha
  refine ⟨_, fun X hX => po_some (p X hX), fun sg H r mu C hid st Q w => ?_⟩
  simp only [evO] at w
  refine s sg H r mu C hid st _ (w.bind.mono (fun _ _ _ e => e) fun u C1 w1 v H1 mu1 k1 g1 e1 => ?_)
  cases u with
  | int i => exact ⟨i, e1.int_inv, w1 _ _ k1 g1⟩
  | _ => exact w1.elim
theorem cut_rel {Z : Hp} {mu : List Addr} {vs : List V} {us : List U} (r : RelUs K cs Z mu vs us) (lo hi : Option Int) : RelUs K cs Z mu (cutV vs lo hi) (cutU us lo hi) := by
  unfold cutV cutU
  rw [r.length]
  exact (r.drop _).take _
theorem SlR.or {X : Cx} {r r' : V → Option Int → Option Int → Hp → VK → Prop} (h : SlR X r) (h' : SlR X r') : SlR X (fun x lo hi H Q => r x lo hi H Q ∨ r' x lo hi H Q) := by
  intro pins s sg H x v vl vu lo hi sl Q I rx hs pl pu q
  rcases q with q | q
  · exact h pins s sg H x v vl vu lo hi sl Q I rx hs pl pu q
  · exact h' pins s sg H x v vl vu lo hi sl Q I rx hs pl pu q
theorem snd_sl (F : Fam K P) {lo hi : Option Expr} {el eh : Eo} {p2 : Pos} (ha : SndE K cs P a (evE g ea)) (hl : SndO K cs P lo (evO g el)) (hh : SndO K cs P hi (evO g eh)) : SndE K cs P (.Subscript a (.Slice lo hi none p2) pos) (evE g (.sl ea el eh)) := by
  obtain ⟨t, p, s⟩ := ha
  obtain ⟨t', p', s'⟩ := hl
  obtain ⟨t2, pq, s2⟩ := hh
  refine ⟨_, fun X hX => pe_slice (SlR.or (F.k X hX ▸ sl_list (X := X)) (F.k X hX ▸ sl_tupA (X := X))) (p X hX) (p' X hX) (pq X hX), fun sg H r mu C hid st Q w => ?_⟩
  simp only [evE] at w
  refine s sg H r mu C hid st _ (w.bind.mono (fun _ _ _ e => e) fun u C1 w1 v H1 mu1 k1 g1 e1 => ?_)
  refine s' sg H1 r mu1 C1 hid (st.grow k1 g1) _ (w1.bind.mono (EW.dn g1) fun l C2 w2 H2 mu2 k2 g2 => ?_)
  refine s2 sg H2 r mu2 C2 hid (st.grow k2 (g1.trans g2)) _ (w2.bind.mono (EW.dn (g1.trans g2)) fun h C3 w3 H3 mu3 k3 g3 => ?_)
  obtain ⟨w', e3, q⟩ := w3.lift
  have g4 := (g1.trans g2).trans g3
  have e1 := e1.up (g2.trans g3).up
  unfold slU at e3
  split at e3
  · rename_i l' e4
    obtain ⟨p, ys, rfl, s1, r1⟩ := rel_tup k3 e1 e4
    refine .inr ⟨p, ys, rfl, s1, fun hc => ?_, fun hc p' hp => ?_⟩
    · rw [r1.length] at hc
      rw [if_pos hc] at e3
      cases e3
      exact q _ _ _ k3 g4 e1
    · rw [r1.length] at hc
      rw [if_neg hc] at e3
      cases e3
      obtain ⟨g5, k5, z⟩ := k3.newZ (o := .tup (cutV ys l h)) hp
      exact q _ _ _ k5 (g4.trans g5) (.tup z ((cut_rel r1 _ _).up g5.up))
  · rename_i l' e4
    cases e3
    obtain ⟨p, ys, rfl, s1, r1⟩ := rel_lst k3 e1 e4
    refine .inl ⟨p, ys, rfl, s1, fun p' hp => ?_⟩
    obtain ⟨g5, k5, z⟩ := k3.newZ (o := .lst (cutV ys l h)) hp
    exact q _ _ _ k5 (g4.trans g5) (.lst z ((cut_rel r1 _ _).up g5.up))
  · cases e3
end
end Py
namespace Py
open PySem Spec PyProof.Rows L2
/-- only the slots of ss are other ones -/
structure Dif (ss : List Nat) (sg sg' : L2.St) : Prop where
  len : sg'.length = sg.length
  at_ : ∀ i : Nat, i ∉ ss → sg'[i]? = sg[i]?
theorem Dif.refl {ss : List Nat} {sg : L2.St} : Dif ss sg sg := ⟨rfl, fun _ _ => rfl⟩
theorem Dif.trans {s1 s2 : List Nat} {a b c : L2.St} (x : Dif s1 a b) (y : Dif s2 b c) : Dif (s1 ++ s2) a c :=
  ⟨y.len.trans x.len, fun i h => (y.at_ i fun z => h (List.mem_append_right _ z)).trans (x.at_ i fun z => h (List.mem_append_left _ z))⟩
theorem wipe_get {sg : L2.St} : ∀ {vs : List Nat} {i : Nat}, (wipe sg vs)[i]? = if i ∈ vs ∧ i < sg.length then some none else sg[i]?
  | [], i => by simp [wipe]
  | v :: vs, i => by
    unfold wipe
    have hl : (wipe sg vs).length = sg.length := wipe_length sg vs
    by_cases hv : v = i
    · subst hv
      by_cases hi : v < sg.length
      · rw [List.getElem?_set_self (by rw [hl]; exact hi), if_pos ⟨List.mem_cons_self, hi⟩]
      · rw [List.getElem?_eq_none (by rw [List.length_set, hl]; omega), if_neg (fun z => hi z.2), List.getElem?_eq_none (by omega)]
    · rw [List.getElem?_set_ne hv, wipe_get]
      have : (i ∈ v :: vs ∧ i < sg.length) ↔ (i ∈ vs ∧ i < sg.length) := by
        constructor
        · rintro ⟨h1, h2⟩
          rcases List.mem_cons.mp h1 with e | h1
          · exact absurd e.symm hv
          · exact ⟨h1, h2⟩
        · exact fun h => ⟨List.mem_cons_of_mem _ h.1, h.2⟩
      by_cases q : i ∈ vs ∧ i < sg.length
      · rw [if_pos q, if_pos (this.mpr q)]
      · rw [if_neg q, if_neg (fun z => q (this.mp z))]
theorem wipe_eq {vs ss : List Nat} {sg sg' : L2.St} (d : Dif ss sg sg') (h : ∀ i ∈ ss, i ∈ vs) : wipe sg' vs = wipe sg vs := by
  refine List.ext_getElem? fun i => ?_
  rw [wipe_get, wipe_get, d.len]
  by_cases hi : i ∈ vs ∧ i < sg.length
  · rw [if_pos hi, if_pos hi]
  · rw [if_neg hi, if_neg hi]
    by_cases hv : i ∈ ss
    · have hl : ¬ i < sg.length := fun z => hi ⟨h i hv, z⟩
      rw [List.getElem?_eq_none (by rw [d.len]; omega), List.getElem?_eq_none (by omega)]
    · exact d.at_ i hv
theorem wipeU_get {r : Sl} : ∀ {vs : List Nat} {i : Nat}, (wipeU r vs)[i]? = if i ∈ vs ∧ i < r.length then some none else r[i]?
  | [], i => by simp [wipeU]
  | v :: vs, i => by
    unfold wipeU
    have hl : (wipeU r vs).length = r.length := by
      clear i v
      induction vs with
      | nil => rfl
      | cons v vs ih => unfold wipeU; rw [List.length_set, ih]
    by_cases hv : v = i
    · subst hv
      by_cases hi : v < r.length
      · rw [List.getElem?_set_self (by rw [hl]; exact hi), if_pos ⟨List.mem_cons_self, hi⟩]
      · rw [List.getElem?_eq_none (by rw [List.length_set, hl]; omega), if_neg (fun z => hi z.2), List.getElem?_eq_none (by omega)]
    · rw [List.getElem?_set_ne hv, wipeU_get]
      have : (i ∈ v :: vs ∧ i < r.length) ↔ (i ∈ vs ∧ i < r.length) := by
        constructor
        · rintro ⟨h1, h2⟩
          rcases List.mem_cons.mp h1 with e | h1
          · exact absurd e.symm hv
          · exact ⟨h1, h2⟩
        · exact fun h => ⟨List.mem_cons_of_mem _ h.1, h.2⟩
      by_cases q : i ∈ vs ∧ i < r.length
      · rw [if_pos q, if_pos (this.mpr q)]
      · rw [if_neg q, if_neg (fun z => q (this.mp z))]
theorem wipeU_length (r : Sl) : ∀ vs : List Nat, (wipeU r vs).length = r.length
  | [] => rfl
  | v :: vs => by unfold wipeU; rw [List.length_set, wipeU_length r vs]
section
variable {K : PySem.W.Frag} {cs : List ClsD} {sg : L2.St} {H : Hp} {r : Sl} {mu : List Addr} {C : List Cl} {hid : List Addr}
theorem StOk.wipe (s : StOk K cs sg H r mu C hid) (vs : List Nat) : StOk K cs (wipe sg vs) H (wipeU r vs) mu C hid :=
  ⟨s.w, by rw [wipe_length, wipeU_length, s.len], fun i u h => by
    rw [wipeU_get] at h
    split at h
    · cases h
    · rename_i hn
      obtain ⟨v, e, q⟩ := s.sl i u h
      exact ⟨v, by rw [wipe_get, if_neg (by rw [s.len]; exact hn)]; exact e, q⟩⟩
theorem StOk.set (s : StOk K cs sg H r mu C hid) {i : Nat} {v : V} {u : U} (hi : i < r.length) (h : RelU K cs (Zof H mu C hid) mu v u) : StOk K cs (sg.set i (some v)) H (r.set i (some u)) mu C hid :=
  ⟨s.w, by rw [List.length_set, List.length_set, s.len], fun j u' h' => by
    by_cases hj : i = j
    · subst hj
      rw [List.getElem?_set_self hi] at h'
      cases h'
      exact ⟨v, by rw [List.getElem?_set_self (by rw [s.len]; exact hi)], h⟩
    · rw [List.getElem?_set_ne hj] at h'
      obtain ⟨v', e, q⟩ := s.sl j u' h'
      exact ⟨v', by rw [List.getElem?_set_ne hj]; exact e, q⟩⟩
end
/-! ### targets -/
mutual
def gsl : G → List Nat
  | .nm i => [i]
  | .tp gs => gsls gs
  | _ => []
def gsls : Gs → List Nat
  | .nil => []
  | .cons g gs => gsl g ++ gsls gs
end
def SndG (K : PySem.W.Frag) (cs : List ClsD) (P : Cx → Prop) (x : Expr) (ss : List Nat) (f : U → Sl → List Cl → Rs Sl) : Prop := ∃ t : TG, (∀ X, P X → PG X x t) ∧ ∀ sg H r mu C hid v u, StOk K cs sg H r mu C hid → RelU K cs (Zof H mu C hid) mu v u →
  ∀ Q : L2.St → Hp → Prop, Wp (EW sg H mu C hid) (f u r C) (fun r' C' => ∀ sg' H' mu', StOk K cs sg' H' r' mu' C' hid → Grow hid H mu C H' mu' C' → Dif ss sg sg' → Q sg' H') → t v sg H Q
def SndGs (K : PySem.W.Frag) (cs : List ClsD) (P : Cx → Prop) (xs : List Expr) (ss : List Nat) (f : List U → Sl → List Cl → Rs Sl) : Prop := ∃ t : TGs, (∀ X, P X → PGs X xs t) ∧ ∀ sg H r mu C hid vs us, StOk K cs sg H r mu C hid → RelUs K cs (Zof H mu C hid) mu vs us →
  ∀ Q : L2.St → Hp → Prop, Wp (EW sg H mu C hid) (f us r C) (fun r' C' => ∀ sg' H' mu', StOk K cs sg' H' r' mu' C' hid → Grow hid H mu C H' mu' C' → Dif ss sg sg' → Q sg' H') → t vs sg H Q
section
variable {K : PySem.W.Frag} {P : Cx → Prop} {cs : List ClsD} {a b c : Expr} {pos : Pos} {ea eb ec : E} {g : Gm} {es : List Expr} {xs : Es} {tt : T} {gg : G} {gs : Gs}
theorem sndG_nm (F : Fam K P) {i : Nat} {x : Str} (hN : ∀ X, P X → X.N[i]? = some x) (hx : ∀ X, P X → Loc X.env.scope x) (hf : ∀ X, P X → X.fn x = true ∨ X.env.scope.names.lookup x = some .local) : SndG K cs P (.Name x pos) (gsl (.nm i)) (evG g (.nm i)) := by
  refine ⟨_, fun X hX => pg_name (F.nd X hX) (hN X hX) (hx X hX) (hf X hX), fun sg H r mu C hid v u st h Q w => ?_⟩
  simp only [evG] at w
  split at w
  · rename_i hi
    exact w _ _ _ (st.set hi h) Grow.refl ⟨List.length_set, fun j hj => List.getElem?_set_ne (fun e => hj (by simp [gsl, e]))⟩
  · exact w.elim
theorem PSet.or {X : Cx} {t t' : TSet} (h : PSet X t) (h' : PSet X t') : PSet X (fun o i v H Q => t o i v H Q ∨ t' o i v H Q) := by
  intro pins s sg H o i v ov iv u Q I ro ri rv q
  rcases q with q | q
  · exact h pins s sg H o i v ov iv u Q I ro ri rv q
  · exact h' pins s sg H o i v ov iv u Q I ro ri rv q
def rSetDic : TSet := fun o i v H Q => ∃ a H4, o = .ref a ∧ DPut H a i v H4 ∧ Q H4
theorem set_dic {X : Cx} (hu : X.A.units + 1 < cLine) : PSet X rSetDic := by
  intro pins s sg H o i v ov iv u Q I ro ri rv q
  obtain ⟨a, H4, rfl, dp, q⟩ := q
  obtain rfl : ov = Value.ref a := ro
  exact d_setItem hu I dp ri rv fun s' I' => ⟨H4, I', q⟩
theorem dput_K {Z : Hp} {mu : List Addr} {k : Key} {ku : U} {v : V} {u : U} (hk : keyOf ku = some k) (hv : RelU K cs Z mu v u) {kvs : List (Key × V)} {l : List (U × U)} (r : RelK K cs Z mu kvs l) : RelK K cs Z mu (putK kvs k v) (dput l ku u) := by
  have any : ∀ {kvs : List (Key × V)} {l : List (U × U)}, RelK K cs Z mu kvs l → (kvs.any fun kv => decide (kv.1 = k)) = (l.any fun p => keq p.1 ku) := by
    intro kvs
    induction kvs with
    | nil => intro l r; cases r; rfl
    | cons p kvs ih =>
      intro l r
      cases r with
      | cons h q t => rw [List.any_cons, List.any_cons, ih t, keq_plain h hk]
  have mp : ∀ {kvs : List (Key × V)} {l : List (U × U)}, RelK K cs Z mu kvs l → RelK K cs Z mu (kvs.map fun kv => if kv.1 = k then (kv.1, v) else kv) (l.map fun p => if keq p.1 ku = true then (p.1, u) else p) := by
    intro kvs
    induction kvs with
    | nil => intro l r; cases r; exact .nil
    | cons p kvs ih =>
      intro l r
      cases r with
      | @cons k' ku' v' u' vs us h q t =>
        rw [List.map_cons, List.map_cons]
        by_cases e : k' = k
        · rw [if_pos e, if_pos (by rw [keq_plain h hk]; exact decide_eq_true e)]
          exact .cons h hv (ih t)
        · rw [if_neg e, if_neg (by rw [keq_plain h hk]; exact fun z => e (of_decide_eq_true z))]
          exact .cons h q (ih t)
  have app : ∀ {kvs : List (Key × V)} {l : List (U × U)}, RelK K cs Z mu kvs l → RelK K cs Z mu (kvs ++ [(k, v)]) (l ++ [(ku, u)]) := by
    intro kvs
    induction kvs with
    | nil => intro l r; cases r; exact .cons hk hv .nil
    | cons p kvs ih =>
      intro l r
      cases r with
      | cons h q t => exact .cons h q (ih t)
  unfold putK dput
  rw [any r]
  split
  · exact mp r
  · exact app r
theorem dput_T {Z : Hp} {mu : List Addr} {k : List Key} {ku : List U} {v : V} {u : U} (hk : keysOf ku = some k) (hv : RelU K cs Z mu v u) {kvs : List (List Key × V)} {l : List (U × U)} (r : RelT K cs Z mu kvs l) : RelT K cs Z mu (putK kvs k v) (dput l (.tup ku) u) := by
  have any : ∀ {kvs : List (List Key × V)} {l : List (U × U)}, RelT K cs Z mu kvs l → (kvs.any fun kv => decide (kv.1 = k)) = (l.any fun p => keq p.1 (.tup ku)) := by
    intro kvs
    induction kvs with
    | nil => intro l r; cases r; rfl
    | cons p kvs ih =>
      intro l r
      cases r with
      | cons h q t => rw [List.any_cons, List.any_cons, ih t, keq_tup h hk]
  have mp : ∀ {kvs : List (List Key × V)} {l : List (U × U)}, RelT K cs Z mu kvs l → RelT K cs Z mu (kvs.map fun kv => if kv.1 = k then (kv.1, v) else kv) (l.map fun p => if keq p.1 (.tup ku) = true then (p.1, u) else p) := by
    intro kvs
    induction kvs with
    | nil => intro l r; cases r; exact .nil
    | cons p kvs ih =>
      intro l r
      cases r with
      | @cons k' ku' v' u' vs us h q t =>
        rw [List.map_cons, List.map_cons]
        by_cases e : k' = k
        · rw [if_pos e, if_pos (by rw [keq_tup h hk]; exact decide_eq_true e)]
          exact .cons h hv (ih t)
        · rw [if_neg e, if_neg (by rw [keq_tup h hk]; exact fun z => e (of_decide_eq_true z))]
          exact .cons h q (ih t)
  have app : ∀ {kvs : List (List Key × V)} {l : List (U × U)}, RelT K cs Z mu kvs l → RelT K cs Z mu (kvs ++ [(k, v)]) (l ++ [(.tup ku, u)]) := by
    intro kvs
    induction kvs with
    | nil => intro l r; cases r; exact .cons hk hv .nil
    | cons p kvs ih =>
      intro l r
      cases r with
      | cons h q t => exact .cons h q (ih t)
  unfold putK dput
  rw [any r]
  split
  · exact mp r
  · exact app r
theorem relK_len {Z : Hp} {mu : List Addr} : ∀ {kvs : List (Key × V)} {l : List (U × U)}, RelK K cs Z mu kvs l → kvs.length = l.length
  | _, _, .nil => rfl
  | _, _, .cons _ _ t => congrArg (· + 1) (relK_len t)
theorem relT_len2 {Z : Hp} {mu : List Addr} : ∀ {kvs : List (List Key × V)} {l : List (U × U)}, RelT K cs Z mu kvs l → kvs.length = l.length
  | _, _, .nil => rfl
  | _, _, .cons _ _ t => congrArg (· + 1) (relT_len2 t)
/-- o[i] = v, by values -/
theorem set_rule {sg : L2.St} {H : Hp} {mu : List Addr} {C : List Cl} {hid : List Addr} {o i x : U} {ov iv xv : V} {Q : Hp → Prop} (k : WOk K cs H mu C hid) (ho : RelU K cs (Zof H mu C hid) mu ov o) (hi : RelU K cs (Zof H mu C hid) mu iv i) (hx : RelU K cs (Zof H mu C hid) mu xv x)
    (w : Wp (EW sg H mu C hid) (setU o i x C) (fun _ C' => ∀ H' mu', WOk K cs H' mu' C' hid → Grow hid H mu C H' mu' C' → Q H')) : rSetL ov iv xv H Q ∨ rSetDic ov iv xv H Q := by
  unfold setU at w
  split at w
  · rename_i kc
    cases ho with
    | @cel _ a hk =>
      cases ec : C[kc]? with
      | none => rw [ec] at w; exact w.elim
      | some cc =>
        obtain ⟨lv, ct⟩ := cc
        rw [ec] at w
        split at w
        · rename_i l j e1
          cases e1
          obtain ⟨a', oo, ea, at', rc⟩ := k.ct kc _ ec
          rw [hk] at ea
          cases ea
          cases rc with
          | @lst ys _ rl =>
            have hH : H a = some (.lst ys) := by
              rcases at' with z | ⟨z, _, _⟩
              · exact z
              · cases z
            split at w
            · rename_i n en
              obtain ⟨g1, k1⟩ := k.setC (o := .lst (ys.set n xv)) ec hk (.lst (rl.set n hx))
              exact .inl ⟨a, ys, j, n, rfl, hi.int_inv, hH, by rw [rl.length]; exact en, w _ _ k1 g1⟩
            · exact w.elim
        · rename_i t l e1
          cases e1
          obtain ⟨a', oo, ea, at', rc⟩ := k.ct kc _ ec
          rw [hk] at ea
          cases ea
          split at w
          · rename_i hc
            have hlt := big_lt hc.2
            rcases kind_inv hc.1 with ⟨rfl, kk, e1⟩ | ⟨rfl, lk, ks, rfl, e1⟩
            · cases rc with
              | @dicK kvs _ rl =>
                have hH : H a = some (.dK kvs) := by
                  rcases at' with z | ⟨z, _, _⟩
                  · exact z
                  · cases z
                obtain ⟨g1, k1⟩ := k.setC (o := .dK (putK kvs kk xv)) ec hk (.dicK (dput_K e1 hx rl))
                exact .inr ⟨a, _, rfl, .inl ⟨kvs, kk, hH, keyOf_val hi e1, by rw [relK_len rl]; exact hlt, rfl⟩, w _ _ k1 g1⟩
            · cases rc with
              | @dicT kvs _ rl =>
                have hH : H a = some (.dT kvs) := by
                  rcases at' with z | ⟨z, _, _⟩
                  · exact z
                  · cases z
                cases hi with
                | tup hz hr =>
                  have hb := keysOf_vals hr e1
                  subst hb
                  obtain ⟨g1, k1⟩ := k.setC (o := .dT (putK kvs ks xv)) ec hk (.dicT (dput_T e1 hx rl))
                  exact .inr ⟨a, _, rfl, .inr ⟨kvs, ks, _, hH, rfl, zof_le _ _ hz, by rw [relT_len2 rl]; exact hlt, rfl⟩, w _ _ k1 g1⟩
          · exact w.elim
        · exact w.elim
  · exact w.elim
/-- no part of a slice, nothing starred -/
def plainX : Expr → Bool
  | .Slice _ _ _ _ => false
  | .Starred _ _ => false
  | _ => true
theorem plainIx {b : Expr} (h : plainX b = true) : PlainIx b := fun o i => by cases b <;> first | rfl | cases h
theorem starE {a : Expr} {es : List Expr} {env : Env} (h : plainX a = true) : starEach (a :: es) env = (false, eval a env) :: starEach es env := by
  rw [starEach]
  intro e p z
  subst z
  cases h
theorem sndG_sub (F : Fam K P) (hns : plainX b = true) (ha : SndE K cs P a (evE g ea)) (hb : SndE K cs P b (evE g eb)) : SndG K cs P (.Subscript a b pos) (gsl (.sub ea eb)) (evG g (.sub ea eb)) := by
  obtain ⟨t, p, s⟩ := ha
  obtain ⟨t', p', s'⟩ := hb
  refine ⟨_, fun X hX => pg_sub (p X hX) (p' X hX) (PSet.or set_list (set_dic (by have := F.hu X hX; omega))) (fun v => by
    rw [assign]
    cases b <;> first | rfl | cases hns), fun sg H r mu C hid v u st h Q w => ?_⟩
  simp only [evG] at w
  refine s sg H r mu C hid st _ (w.bind.mono (fun _ _ _ e => e) fun o C1 w1 ov H1 mu1 k1 g1 e1 => ?_)
  refine s' sg H1 r mu1 C1 hid (st.grow k1 g1) _ (w1.bind.mono (EW.dn g1) fun i C2 w2 iv H2 mu2 k2 g2 e2 => ?_)
  refine set_rule (sg := sg) k2 (e1.up g2.up) e2 (h.up (g1.trans g2).up) (w2.bind.mono (EW.dn (g1.trans g2)) fun _ C3 w3 H3 mu3 k3 g3 => ?_)
  exact w3 _ _ _ (st.grow k3 ((g1.trans g2).trans g3)) ((g1.trans g2).trans g3) Dif.refl
theorem sndGs_nil : SndGs K cs P [] (gsls .nil) (evGs g .nil) := by
  refine ⟨_, fun _ _ => pgs_nil, fun sg H r mu C hid vs us st h Q w => ?_⟩
  cases h with
  | nil =>
    simp only [evGs] at w
    exact ⟨rfl, w _ _ _ st Grow.refl Dif.refl⟩
  | cons h1 h2 =>
    simp only [evGs] at w
    exact w.elim
theorem sndGs_cons (hg : SndG K cs P a (gsl gg) (evG g gg)) (hs : SndGs K cs P es (gsls gs) (evGs g gs)) (he : ∀ X, P X → (assignEach (a :: es) X.env).map (·.2) = assign a X.env :: (assignEach es X.env).map (·.2)) : SndGs K cs P (a :: es) (gsls (.cons gg gs)) (evGs g (.cons gg gs)) := by
  obtain ⟨t, p, s⟩ := hg
  obtain ⟨t', p', s'⟩ := hs
  refine ⟨_, fun X hX => pgs_cons (p X hX) (p' X hX) (he X hX), fun sg H r mu C hid vs us st h Q w => ?_⟩
  cases h with
  | nil =>
    simp only [evGs] at w
    exact w.elim
  | cons h1 h2 =>
    simp only [evGs] at w
    refine ⟨_, _, rfl, s sg H r mu C hid _ _ st h1 _ (w.bind.mono (fun _ _ _ e => e) fun r1 C1 w1 sg1 H1 mu1 st1 g1 d1 => ?_)⟩
    refine s' sg1 H1 r1 mu1 C1 hid _ _ st1 (h2.up g1.up) _ (w1.mono (EW.dn g1) fun r2 C2 w2 sg2 H2 mu2 st2 g2 d2 => ?_)
    exact w2 _ _ _ st2 (g1.trans g2) (d1.trans d2)
theorem sndG_tp (F : Fam K P) {k : Nat} (hs : SndGs K cs P es (gsls gs) (evGs g gs)) (hn : ∀ X, P X → (assignEach es X.env).length = es.length) (hst : ∀ X, P X → (assignEach es X.env).findIdx? (·.1) = none)
    (hl : gs.len = es.length) : SndG K cs P (.Tuple es k pos) (gsl (.tp gs)) (evG g (.tp gs)) := by
  obtain ⟨t, p, s⟩ := hs
  refine ⟨_, fun X hX => F.k X hX ▸ pg_tup (F.calm X hX) (p X hX) (hn X hX) (hst X hX), fun sg H r mu C hid v u st h Q w => ?_⟩
  simp only [evG] at w
  split at w
  · rename_i l e1
    obtain ⟨a, ys, rfl, s1, r1⟩ := rel_tup st.w h e1
    split at w
    · rename_i hlen
      refine ⟨a, ys, rfl, s1, ?_, s sg H r mu C hid ys l st r1 Q w⟩
      rw [r1.length, hlen, hl]
    · exact w.elim
  · exact w.elim
end
end Py
namespace Py
open PySem Spec PyProof.Rows L2
/-- what an iterator gives: the items of l -/
def ItOk (K : PySem.W.Frag) (cs : List ClsD) (H : Hp) (mu : List Addr) (C : List Cl) (hid : List Addr) (l : List U) (G : Hp → Prop) (Y : Nat → Hp → V → Hp → Prop) : Prop :=
  ∀ H2 mu2 C2 hid2, Up (Zof H mu C hid) mu (Zof H2 mu2 C2 hid2) mu2 → WOk K cs H2 mu2 C2 hid2 → G H2 ∧ ∀ i x H3, i < l.length → Y i H2 x H3 →
    ∃ u, l[i]? = some u ∧ WOk K cs H3 mu2 C2 hid2 ∧ Grow hid2 H2 mu2 C2 H3 mu2 C2 ∧ RelU K cs (Zof H3 mu2 C2 hid2) mu2 x u
def SndI (K : PySem.W.Frag) (cs : List ClsD) (P : Cx → Prop) (tg x : Expr) (f : Sl → List Cl → Rs (List U)) : Prop := ∃ t : TI, (∀ X, P X → PI X tg x t) ∧ ∀ sg H r mu C hid, StOk K cs sg H r mu C hid → ∀ R : It → Hp → Prop,
  Wp (EW sg H mu C hid) (f r C) (fun l C' => ∀ J H' mu' G Y, WOk K cs H' mu' C' hid → Grow hid H mu C H' mu' C' → Walk J l.length G Y → ItOk K cs H' mu' C' hid l G Y → R J H') → t sg H R
section
variable {X : Cx}
/-- over a list or a tuple -/
def iSeq (K : PySem.W.Frag) (tl : TE) : TI := fun sg H R => tl sg H fun x H1 => ∃ a, x = .ref a ∧ (((∃ xs, SqL K H1 a xs) ∧ R (Itl K a) H1) ∨ ((∃ xs, SqT K H1 a xs) ∧ R (Itt K a) H1))
theorem pi_seq {tg l : Expr} {tl : TE} (hl : PE X l tl) : PI X tg l (iSeq X.K tl) := by
  refine ⟨fun pins s sg H R I h => ?_⟩
  refine thn (hl.run pins s sg H _ I h) fun v s1 ⟨x, H1, I1, r1, q1⟩ => ?_
  obtain ⟨a, e, q⟩ := q1
  subst e
  cases r1
  have fin : ∀ {b : Addr}, b = s1.heap.objs.size → FpOk X pins H1 b := fun {b} e => by
    subst e
    exact I1.fpOk (Nat.le_refl _) (I1.hok.fresh (Nat.le_refl _))
  rcases q with ⟨⟨xs, hq⟩, q⟩ | ⟨⟨xs, hq⟩, q⟩
  · obtain ⟨its, rv, p, hz⟩ := I1.list hq
    refine wpAny_pyIter_list p.isList ?_
    exact ⟨s1.heap.objs.size, [s1.heap.objs.size], _, _, H1, rfl, I1.kept (t' := s1.toks) fun b o e => Heap.get?_push_of_some _ e, turn_list a _, ⟨_, Heap.get?_push_size _ rfl, rfl, rfl⟩, fun b hb => fin (by simpa using hb), q⟩
  · obtain ⟨its, rv, p, hz⟩ := I1.tuple hq
    refine wpAny_pyIter_tuple (show s1.heap.IsTuple a its.toArray from p) ?_
    exact ⟨s1.heap.objs.size, [s1.heap.objs.size], _, _, H1, rfl, I1.kept (t' := s1.toks) fun b o e => Heap.get?_push_of_some _ e, turn_tuple a _, ⟨_, Heap.get?_push_size _ rfl, rfl, rfl⟩, fun b hb => fin (by simpa using hb), q⟩
end
section
variable {K : PySem.W.Frag} {P : Cx → Prop} {cs : List ClsD} {a b c : Expr} {pos : Pos} {ea eb ec : E} {g : Gm} {es : List Expr} {xs : Es} {tt : T} {tg : Expr}
/-- a list that is known for good, walked -/
theorem it_lst {H : Hp} {mu : List Addr} {C : List Cl} {hid : List Addr} {p : Addr} {ys : List V} {l : List U} (s : SqL K (Zof H mu C hid) p ys) (r : RelUs K cs (Zof H mu C hid) mu ys l) : Walk (Itl K p) l.length (fun H => SqL K H p ys) (YAt ys) ∧ ItOk K cs H mu C hid l (fun H => SqL K H p ys) (YAt ys) := by
  refine ⟨by rw [← r.length]; exact walk_list, fun H2 mu2 C2 hid2 up k2 => ⟨?_, fun i x H3 hi y => ?_⟩⟩
  · have z := up.sqL s
    rcases z with z | z
    · exact .inl (zof_rd z)
    · exact .inr z
  · obtain ⟨rfl, e⟩ := y
    obtain ⟨v, e1, e2⟩ := r.get i l[i] (by simp [hi])
    rw [e] at e1
    cases e1
    exact ⟨l[i], by simp [hi], k2, Grow.refl, e2.up up⟩
theorem it_tup {H : Hp} {mu : List Addr} {C : List Cl} {hid : List Addr} {p : Addr} {ys : List V} {l : List U} (s : SqT K (Zof H mu C hid) p ys) (r : RelUs K cs (Zof H mu C hid) mu ys l) : Walk (Itt K p) l.length (fun H => SqT K H p ys) (YAt ys) ∧ ItOk K cs H mu C hid l (fun H => SqT K H p ys) (YAt ys) := by
  refine ⟨by rw [← r.length]; exact walk_tup, fun H2 mu2 C2 hid2 up k2 => ⟨?_, fun i x H3 hi y => ?_⟩⟩
  · rcases s with z | z
    · exact .inl (zof_rd (up.r _ _ z))
    · exact .inr z
  · obtain ⟨rfl, e⟩ := y
    obtain ⟨v, e1, e2⟩ := r.get i l[i] (by simp [hi])
    rw [e] at e1
    cases e1
    exact ⟨l[i], by simp [hi], k2, Grow.refl, e2.up up⟩
/-- a mutable list is frozen -/
theorem frz_cell {H : Hp} {mu : List Addr} {C : List Cl} {hid : List Addr} {k : Nat} {lv : Bool} {l : List U} {p : Addr} (w : WOk K cs H mu C hid) (ek : C[k]? = some ⟨lv, .lst l⟩) (hk : mu[k]? = some p) :
    ∃ ys, Grow hid H mu C H mu (frzC k C) ∧ WOk K cs H mu (frzC k C) hid ∧ Zof H mu (frzC k C) hid p = some (.lst ys) ∧ RelUs K cs (Zof H mu (frzC k C) hid) mu ys l := by
  have ef : frzC k C = C.set k ⟨false, .lst l⟩ := by
    unfold frzC
    rw [ek]
  rw [ef]
  obtain ⟨g1, w1⟩ := w.frzC ek
  obtain ⟨a', o, ea, at', rc⟩ := w1.ct k ⟨false, .lst l⟩ (by rw [List.getElem?_set_self (List.getElem?_eq_some_iff.mp ek).1])
  rw [hk] at ea
  cases ea
  cases rc with
  | @lst ys _ rl =>
    have hH : H p = some (.lst ys) := by
      rcases at' with z | ⟨_, z, _⟩
      · exact z
      · cases z
    refine ⟨ys, g1, w1, zof_of hH ?_ (w.hc k _ hk), rl⟩
    rintro ⟨j, d, h1, h2⟩
    by_cases hj : k = j
    · subst hj
      rw [List.getElem?_set_self (List.getElem?_eq_some_iff.mp ek).1] at h2
      cases h2
    · rw [List.getElem?_set_ne hj] at h2
      exact hj (w.inj j k _ _ _ h1 hk h2 ek rfl).symm
theorem walk_rule {sg : L2.St} {H0 H : Hp} {mu0 mu : List Addr} {C0 C : List Cl} {hid : List Addr} {v : V} {u : U} {R : It → Hp → Prop} (k : WOk K cs H mu C hid) (g0 : Grow hid H0 mu0 C0 H mu C) (h : RelU K cs (Zof H mu C hid) mu v u)
    (w : Wp (EW sg H0 mu0 C0 hid) (walkU u C) (fun l C' => ∀ J H' mu' G Y, WOk K cs H' mu' C' hid → Grow hid H0 mu0 C0 H' mu' C' → Walk J l.length G Y → ItOk K cs H' mu' C' hid l G Y → R J H')) :
    ∃ a, v = .ref a ∧ (((∃ xs, SqL K H a xs) ∧ R (Itl K a) H) ∨ ((∃ xs, SqT K H a xs) ∧ R (Itt K a) H)) := by
  cases h with
  | @cel kk p hk =>
    unfold walkU at w
    dsimp only at w
    split at w
    · rename_i lv l ek
      obtain ⟨ys, g1, w1, z, rl⟩ := frz_cell k ek hk
      have i := it_lst (K := K) (cs := cs) (.inl (.inl z)) rl
      exact ⟨p, rfl, .inl ⟨⟨ys, .inl (.inl (zof_le _ _ z))⟩, w _ _ _ _ _ w1 (g0.trans g1) i.1 i.2⟩⟩
    · exact w.elim
  | @lst p ys l z r =>
    have i := it_lst (K := K) (cs := cs) (.inl (.inl z)) r
    exact ⟨p, rfl, .inl ⟨⟨ys, .inl (.inl (zof_le _ _ z))⟩, w _ _ _ _ _ k g0 i.1 i.2⟩⟩
  | @klst p ys l z r =>
    have i := it_lst (K := K) (cs := cs) z r
    refine ⟨p, rfl, .inl ⟨⟨ys, ?_⟩, w _ _ _ _ _ k g0 i.1 i.2⟩⟩
    rcases z with z | z
    · exact .inl (zof_rd z)
    · exact .inr z
  | @tup p ys l z r =>
    have i := it_tup (K := K) (cs := cs) (.inl (.inl z)) r
    exact ⟨p, rfl, .inr ⟨⟨ys, .inl (.inl (zof_le _ _ z))⟩, w _ _ _ _ _ k g0 i.1 i.2⟩⟩
  | @ktup p ys l z r =>
    have i := it_tup (K := K) (cs := cs) (H := H) (C := C) (hid := hid) (.inr z) r
    exact ⟨p, rfl, .inr ⟨⟨ys, .inr z⟩, w _ _ _ _ _ k g0 i.1 i.2⟩⟩
  | _ => exact w.elim
theorem sndI_seq (F : Fam K P) (ha : SndE K cs P a (evE g ea)) : SndI K cs P tg a (evI g (.seq ea)) := by
  obtain ⟨t, p, s⟩ := ha
  refine ⟨_, fun X hX => F.k X hX ▸ pi_seq (p X hX), fun sg H r mu C hid st R w => ?_⟩
  simp only [evI] at w
  refine s sg H r mu C hid st _ (w.bind.mono (fun _ _ _ e => e) fun u C1 w1 v H1 mu1 k1 g1 e1 => ?_)
  exact walk_rule k1 g1 e1 w1
theorem it_rng {H : Hp} {mu : List Addr} {C : List Cl} {hid : List Addr} {lo hi : Int} : Walk (Itr lo (hi - lo).toNat) (rngU lo hi).length (fun _ => True) (YFn fun i => .int (lo + i)) ∧ ItOk K cs H mu C hid (rngU lo hi) (fun _ => True) (YFn fun i => .int (lo + i)) := by
  have hl : (rngU lo hi).length = (hi - lo).toNat := by simp [rngU]
  refine ⟨by rw [hl]; exact walk_range, fun H2 mu2 C2 hid2 up k2 => ⟨trivial, fun i x H3 h y => ?_⟩⟩
  obtain ⟨rfl, rfl⟩ := y
  rw [hl] at h
  exact ⟨.int (lo + i), by simp [rngU, h], k2, Grow.refl, .int _⟩
theorem sndI_rng1 {p : Pos} (hg : ∀ X, P X → L2.Gl X "range") (hm : ∀ X, P X → X.mg "range" = none) (hs : plainX a = true) (ha : SndE K cs P a (evE g ea)) : SndI K cs P tg (.Call (.Name "range" p) [a] [] pos) (evI g (.rng1 ea)) := by
  obtain ⟨t, pr, s⟩ := ha
  refine ⟨_, fun X hX => pi_range1 (hg X hX) (hm X hX) (pa_cons (pr X hX) pa_nil (starE hs)) (starE hs), fun sg H r mu C hid st R w => ?_⟩
  simp only [evI] at w
  refine s sg H r mu C hid st _ (w.bind.mono (fun _ _ _ e => e) fun u C1 w1 v H1 mu1 k1 g1 e1 => ?_)
  cases u with
  | int i =>
    dsimp only at w1
    split at w1
    · rename_i hc
      have hc := of_decide_eq_true hc
      have q := it_rng (K := K) (cs := cs) (H := H1) (mu := mu1) (C := C1) (hid := hid) (lo := 0) (hi := i)
      have q2 := w1 _ _ _ _ _ k1 g1 q.1 q.2
      rw [Int.sub_zero] at q2
      exact ⟨i, by rw [e1.int_inv], hc.2.2.1, hc.2.2.2, q2⟩
    · exact w1.elim
  | _ => exact w1.elim
theorem sndI_rng2 {p : Pos} (hg : ∀ X, P X → L2.Gl X "range") (hm : ∀ X, P X → X.mg "range" = none) (hs : plainX a = true) (hs' : plainX b = true) (ha : SndE K cs P a (evE g ea)) (hb : SndE K cs P b (evE g eb)) : SndI K cs P tg (.Call (.Name "range" p) [a, b] [] pos) (evI g (.rng2 ea eb)) := by
  obtain ⟨t, pr, s⟩ := ha
  obtain ⟨t', pr', s'⟩ := hb
  refine ⟨_, fun X hX => pi_range2 (hg X hX) (hm X hX) (pa_cons (pr X hX) (pa_cons (pr' X hX) pa_nil (starE hs')) (starE hs)) (by rw [starE hs, starE hs']; rfl) (starE hs'), fun sg H r mu C hid st R w => ?_⟩
  simp only [evI] at w
  refine s sg H r mu C hid st _ (w.bind.mono (fun _ _ _ e => e) fun u C1 w1 v H1 mu1 k1 g1 e1 => ?_)
  refine s' sg H1 r mu1 C1 hid (st.grow k1 g1) _ (w1.bind.mono (EW.dn g1) fun u' C2 w2 v' H2 mu2 k2 g2 e2 => ?_)
  split at w2
  · rename_i i j
    split at w2
    · rename_i hc
      have hc := of_decide_eq_true hc
      have q := it_rng (K := K) (cs := cs) (H := H2) (mu := mu2) (C := C2) (hid := hid) (lo := i) (hi := j)
      exact ⟨i, j, by rw [e1.int_inv, e2.int_inv], hc, w2 _ _ _ _ _ k2 (g1.trans g2) q.1 q.2⟩
    · exact w2.elim
  · exact w2.elim
/-! ### comprehensions -/
/-- the contexts of a block within those of P -/
def Blk (P : Cx → Prop) (scope : Scope) : Cx → Prop := fun X' => ∃ (X : Cx) (s : Shared) (H : Hp) (C : Addr) (cl : List (Str × Addr)) (fp : List Addr), P X ∧ X' = X.blk s H scope (compEnvC scope cl C X.env) fp
theorem Fam.blk (F : Fam K P) (scope : Scope) : Fam K (Blk P scope) where
  k := fun X' ⟨X, _, _, _, _, _, hX, e⟩ => by subst e; exact F.k X hX
  hu := fun X' ⟨X, _, _, _, _, _, hX, e⟩ => by subst e; exact F.hu X hX
  calm := fun X' ⟨X, _, _, _, _, _, hX, e⟩ => by subst e; exact F.calm X hX
  nd := fun X' ⟨X, _, _, _, _, _, hX, e⟩ => by subst e; exact F.nd X hX
def SndC (K : PySem.W.Frag) (cs : List ClsD) (P : Cx → Prop) (xs : List Expr) (f : Sl → List Cl → Rs Bool) : Prop := ∃ t : TT, (∀ X, P X → PTs X xs t) ∧ ∀ sg H r mu C hid, StOk K cs sg H r mu C hid → ∀ Q : Bool → Hp → Prop,
  Wp (EW sg H mu C hid) (f r C) (fun b C' => ∀ H' mu', WOk K cs H' mu' C' hid → Grow hid H mu C H' mu' C' → Q b H') → t sg H Q
theorem sndC_nil : SndC K cs P [] (evT g .tt) := ⟨_, fun _ _ => pts_nil, fun sg H r mu C hid st Q w => by
  simp only [evT] at w
  exact w _ _ st.w Grow.refl⟩
theorem sndC_one {f : Sl → List Cl → Rs Bool} (h : SndT K cs P a f) : SndC K cs P [a] f := let ⟨t, p, s⟩ := h; ⟨t, fun X hX => pts_one (p X hX), s⟩
/-- the turns of a comprehension, from a hidden list at D that holds acc so far -/
theorem comp_turns {asg : U → Sl → List Cl → Rs Sl} {tst : Sl → List Cl → Rs Bool} {el : Sl → List Cl → Rs U} {us acc : List U} {r : Sl} {C : List Cl} {l : List U} {C' : List Cl} (h : compGo asg tst el us acc r C = .ok l C') :
    (us = [] ∧ l = acc ∧ C' = C) ∨ ∃ u us' r1 C1, us = u :: us' ∧ asg u r C = .ok r1 C1 ∧ ((∃ C2 v C3, tst r1 C1 = .ok true C2 ∧ el r1 C2 = .ok v C3 ∧ acc.length < big ∧ compGo asg tst el us' (acc ++ [v]) r C3 = .ok l C') ∨
      (∃ C2, tst r1 C1 = .ok false C2 ∧ compGo asg tst el us' acc r C2 = .ok l C')) := by
  cases us with
  | nil =>
    unfold compGo at h
    cases h
    exact .inl ⟨rfl, rfl, rfl⟩
  | cons u us' =>
    refine .inr ⟨u, us', ?_⟩
    unfold compGo at h
    cases e1 : asg u r C with
    | no => rw [e1] at h; cases h
    | er c l' C1 => rw [e1] at h; cases h
    | ok r1 C1 =>
      rw [e1] at h
      dsimp only at h
      refine ⟨r1, C1, rfl, rfl, ?_⟩
      cases e2 : tst r1 C1 with
      | no => rw [e2] at h; cases h
      | er c l' C1 => rw [e2] at h; cases h
      | ok b C2 =>
        rw [e2] at h
        cases b with
        | false => exact .inr ⟨C2, rfl, h⟩
        | true =>
          dsimp only at h
          cases e3 : el r1 C2 with
          | no => rw [e3] at h; cases h
          | er c l' C1 => rw [e3] at h; cases h
          | ok v C3 =>
            rw [e3] at h
            dsimp only at h
            split at h
            · rename_i hl
              exact .inl ⟨C2, v, C3, rfl, e3, hl, h⟩
            · cases h
theorem wipe_wipe (sg : L2.St) (vs : List Nat) : wipe (wipe sg vs) vs = wipe sg vs := by
  refine List.ext_getElem? fun i => ?_
  rw [wipe_get, wipe_get, wipe_length]
  split <;> rfl
theorem StOk.up {sg : L2.St} {H H' : Hp} {r : Sl} {mu mu' : List Addr} {C C' : List Cl} {hid hid' : List Addr} (s : StOk K cs sg H r mu C hid) (w : WOk K cs H' mu' C' hid') (u : Up (Zof H mu C hid) mu (Zof H' mu' C' hid') mu') : StOk K cs sg H' r mu' C' hid' :=
  ⟨w, s.len, fun i x h => let ⟨v, e, q⟩ := s.sl i x h; ⟨v, e, q.up u⟩⟩
/-- the hidden list comes out: data, or live -/
theorem alloc_hid {sg : L2.St} {H0 H : Hp} {mu0 mu : List Addr} {C0 C : List Cl} {hid : List Addr} {Q : VK} {m : Bool} {vs : List V} {l : List U} {p : Addr} (k : WOk K cs H mu C (p :: hid)) (hn : p ∉ hid) (hp : H p = some (.lst vs))
    (up : Up (Zof H0 mu0 C0 hid) mu0 (Zof H mu C (p :: hid)) mu) (hh : ∀ a ∈ hid, H a = H0 a) (r : RelUs K cs (Zof H mu C (p :: hid)) mu vs l)
    (w : Wp (EW sg H0 mu0 C0 hid) (alloc m (.lst l) C) (fun w C' => ∀ v' H' mu', WOk K cs H' mu' C' hid → Grow hid H0 mu0 C0 H' mu' C' → RelU K cs (Zof H' mu' C' hid) mu' v' w → Q v' H')) : Q (.ref p) H := by
  cases m with
  | false =>
    obtain ⟨u2, k2, z⟩ := k.showZ hn hp
    exact w _ _ _ k2 ⟨up.trans u2, hh⟩ (.lst z (r.up u2))
  | true =>
    obtain ⟨u2, k2⟩ := k.showC hn hp (.lst r)
    exact w _ _ _ k2 ⟨up.trans u2, hh⟩ (.cel (by rw [← k.len, List.getElem?_concat_length]))
theorem drop_cons {l : List U} {i : Nat} {u : U} (e : l[i]? = some u) : l.drop i = u :: l.drop (i + 1) := by
  obtain ⟨h, e⟩ := List.getElem?_eq_some_iff.mp e
  rw [List.drop_eq_getElem_cons h, e]
theorem snd_comp (F : Fam K P) {it elt : Expr} {ifs : List Expr} {scope : Scope} {own : List (Str × Nat)} {m : Bool} {gg : G} {xi : I} {ee : E} (hok : ∀ X, P X → BlkOk X.N X.env.scope scope own) (hi : SndI K cs P tg it (evI g xi))
    (hg : SndG K cs (Blk P scope) tg (gsl gg) (evG g gg)) (ht : SndC K cs (Blk P scope) ifs (evT g tt)) (he : SndE K cs (Blk P scope) elt (evE g ee)) (hsub : ∀ i ∈ gsl gg, i ∈ own.map (·.2)) (hs : ∀ env x, foldedSetIterable it env x = pure x) :
    SndE K cs P (.ListComp elt [⟨tg, it, ifs, 0⟩] scope pos) (evE g (.comp m gg xi tt ee (own.map (·.2)))) := by
  obtain ⟨ti, pi, si⟩ := hi
  obtain ⟨tgt, pg, sgt⟩ := hg
  obtain ⟨tc, pc, sc⟩ := ht
  obtain ⟨te, pe, se⟩ := he
  refine ⟨_, fun X hX => pe_lc (F.calm X hX) (F.nd X hX) (pi X hX) (hok X hX) (fun s H C cl fp => pg _ ⟨X, s, H, C, cl, fp, hX, rfl⟩) (fun s H C cl fp => pc _ ⟨X, s, H, C, cl, fp, hX, rfl⟩) (fun s H C cl fp => pe _ ⟨X, s, H, C, cl, fp, hX, rfl⟩) (hs _), fun sg H r mu C hid st Q w => ?_⟩
  generalize hvs : own.map (·.2) = vs at hsub w ⊢
  simp only [evE] at w
  refine si sg H r mu C hid st _ (w.bind.mono (fun _ _ _ e => e) fun l C1 w1 J H1 mu1 G Y k1 g1 wk ok D hD => ?_)
  have nh : D ∉ hid := k1.nhid hD
  cases ec : compGo (fun u r C => evG g gg u r C) (fun r C => evT g tt r C) (fun r C => evE g ee r C) l [] (wipeU r vs) C1 with
  | no => rw [ec] at w1; exact w1.elim
  | er c l' C' =>
    rw [ec] at w1
    exact w1.elim
  | ok us C2 =>
    rw [ec] at w1
    have w1 : Wp (EW sg H mu C hid) (alloc m (.lst us) C2) _ := w1
    obtain ⟨_, u2, k2⟩ := k1.newH (o := .lst []) hD
    refine lc_it wk (fun i H' => ∃ acc accV mu' C', WOk K cs H' mu' C' (D :: hid) ∧ H' D = some (.lst accV) ∧ RelUs K cs (Zof H' mu' C' (D :: hid)) mu' accV acc ∧ Up (Zof H1 mu1 C1 hid) mu1 (Zof H' mu' C' (D :: hid)) mu' ∧ (∀ a ∈ hid, H' a = H1 a) ∧
      compGo (fun u r C => evG g gg u r C) (fun r C => evT g tt r C) (fun r C => evE g ee r C) (l.drop i) acc (wipeU r vs) C' = .ok us C2) ?_ ?_ ?_ ?_
    · exact ⟨[], [], mu1, C1, k2, upd_same, .nil, u2, fun a ha => upd_ne fun e => nh (e ▸ ha), ec⟩
    · rintro i H' _ ⟨acc, accV, mu', C', k', _, _, up, _⟩
      exact (ok H' mu' C' (D :: hid) up k').1
    · rintro i x H2 H3 hil ⟨acc, accV, mu', C', k', hD', ra, up, hh, go⟩ hy
      obtain ⟨u, eu, k3, g3, ru⟩ := (ok H2 mu' C' (D :: hid) up k').2 i x H3 hil hy
      rw [drop_cons eu] at go
      rcases comp_turns go with ⟨e, _⟩ | ⟨u', us', r1, C3, e, ea, alt⟩
      · cases e
      · obtain ⟨rfl, rfl⟩ := List.cons.inj e
        have st3 : StOk K cs (wipe sg vs) H3 (wipeU r vs) mu' C' (D :: hid) := (st.wipe vs).up k3 ((g1.up.trans up).trans g3.up)
        refine sgt (wipe sg vs) H3 (wipeU r vs) mu' C' (D :: hid) x u st3 ru _ ?_
        try dsimp only at ea
        rw [ea]
        show ∀ sg' H' mu'', StOk K cs sg' H' r1 mu'' C3 (D :: hid) → Grow (D :: hid) H3 mu' C' H' mu'' C3 → Dif (gsl gg) (wipe sg vs) sg' → _
        intro sg4 H4 mu4 st4 g4 d4
        refine ⟨by rw [wipe_eq d4 hsub, wipe_wipe], ?_⟩
        refine sc sg4 H4 r1 mu4 C3 (D :: hid) st4 _ ?_
        rcases alt with ⟨C5, v, C6, et, ee', hlt, go2⟩ | ⟨C5, et, go2⟩
        · try dsimp only at et
          rw [et]
          show ∀ H' mu', WOk K cs H' mu' C5 (D :: hid) → Grow (D :: hid) H4 mu4 C3 H' mu' C5 → _
          intro H5 mu5 k5 g5
          refine iteT (se sg4 H5 r1 mu5 C5 (D :: hid) (st4.grow k5 g5) _ ?_)
          try dsimp only at ee'
          rw [ee']
          show ∀ v' H' mu', WOk K cs H' mu' C6 (D :: hid) → Grow (D :: hid) H5 mu5 C5 H' mu' C6 → RelU K cs (Zof H' mu' C6 (D :: hid)) mu' v' v → _
          intro y H6 mu6 k6 g6 r6
          have gall := ((g3.trans g4).trans g5).trans g6
          have hD6 : H6 D = some (.lst accV) := (gall.hid D List.mem_cons_self).trans hD'
          obtain ⟨u7, k7, h7⟩ := k6.setH (o := .lst (accV ++ [y])) nh
          refine ⟨accV, hD6, ?_, acc ++ [v], accV ++ [y], mu6, C6, k7, upd_same, ?_, (up.trans gall.up).trans u7, fun a ha => ?_, go2⟩
          · rw [ra.length]
            exact big_lt hlt
          · exact ((ra.up (gall.up.trans u7)).append (.cons (r6.up u7) .nil))
          · rw [h7 a ha, gall.hid a (List.mem_cons_of_mem _ ha), hh a ha]
        · try dsimp only at et
          rw [et]
          show ∀ H' mu', WOk K cs H' mu' C5 (D :: hid) → Grow (D :: hid) H4 mu4 C3 H' mu' C5 → _
          intro H5 mu5 k5 g5
          have gall := (g3.trans g4).trans g5
          refine iteF ⟨acc, accV, mu5, C5, k5, (gall.hid D List.mem_cons_self).trans hD', ra.up gall.up, up.trans gall.up, fun a ha => ?_, go2⟩
          rw [gall.hid a (List.mem_cons_of_mem _ ha), hh a ha]
    · rintro H' ⟨acc, accV, mu', C', k', hD', ra, up, hh, go⟩
      rw [List.drop_length] at go
      unfold compGo at go
      cases go
      exact alloc_hid k' nh hD' (g1.up.trans up) (fun a ha => (hh a ha).trans (g1.hid a ha)) ra w1
end
end Py
namespace Py
open PySem Spec PyProof.Rows L2
/-- what a statement's outcome leads to -/
def WpO (K : PySem.W.Frag) (cs : List ClsD) (sg : L2.St) (H : Hp) (mu : List Addr) (C : List Cl) (hid : List Addr) (D : Ends) (o : Ou) : Prop := match o with
  | .nx r' C' => ∀ sg' H' mu', StOk K cs sg' H' r' mu' C' hid → Grow hid H mu C H' mu' C' → D.nx sg' H'
  | .bk r' C' => ∀ sg' H' mu', StOk K cs sg' H' r' mu' C' hid → Grow hid H mu C H' mu' C' → D.bk sg' H'
  | .ct r' C' => ∀ sg' H' mu', StOk K cs sg' H' r' mu' C' hid → Grow hid H mu C H' mu' C' → D.ct sg' H'
  | .rt u C' => ∀ v H' mu', WOk K cs H' mu' C' hid → Grow hid H mu C H' mu' C' → RelU K cs (Zof H' mu' C' hid) mu' v u → D.rt v H'
  | .er c l C' => EW sg H mu C hid c l C'
  | .no => False
def SndS (K : PySem.W.Frag) (cs : List ClsD) (P : Cx → Prop) (x : Stmt) (f : Sl → List Cl → Ou) : Prop := ∃ t : TS, (∀ X, P X → PS X x t) ∧ ∀ sg H r mu C hid, StOk K cs sg H r mu C hid → ∀ D : Ends, WpO K cs sg H mu C hid D (f r C) → t D sg H
def SndSs (K : PySem.W.Frag) (cs : List ClsD) (P : Cx → Prop) (x : List Stmt) (f : Sl → List Cl → Ou) : Prop := ∃ t : TS, (∀ X, P X → PSs X x t) ∧ ∀ sg H r mu C hid, StOk K cs sg H r mu C hid → ∀ D : Ends, WpO K cs sg H mu C hid D (f r C) → t D sg H
section
variable {K : PySem.W.Frag} {P : Cx → Prop} {cs : List ClsD} {a b c : Expr} {pos : Pos} {ea eb ec : E} {g : Gm} {es : List Expr} {xs : Es} {tt : T} {gg : G} {sg : L2.St} {H H' : Hp} {mu mu' : List Addr} {C C' : List Cl} {hid : List Addr} {D : Ends} {o : Ou}
theorem WpO.dn {sg' : L2.St} (w : WpO K cs sg H mu C hid D o) (k : Grow hid H mu C H' mu' C') : WpO K cs sg' H' mu' C' hid D o := by
  cases o with
  | nx r' C2 => exact fun s2 H2 m2 st g2 => w s2 H2 m2 st (k.trans g2)
  | bk r' C2 => exact fun s2 H2 m2 st g2 => w s2 H2 m2 st (k.trans g2)
  | ct r' C2 => exact fun s2 H2 m2 st g2 => w s2 H2 m2 st (k.trans g2)
  | rt u C2 => exact fun v H2 m2 st g2 => w v H2 m2 st (k.trans g2)
  | er c l C2 => exact w
  | no => exact w
/-- an expression's outcome, then a statement's -/
theorem WpO.out {α : Type} {r : Rs α} {f : α → List Cl → Ou} (w : WpO K cs sg H mu C hid D (r.out f)) : Wp (EW sg H mu C hid) r fun a C1 => WpO K cs sg H mu C hid D (f a C1) := by
  cases r with
  | ok a C1 => exact w
  | er c l C1 => exact w
  | no => exact w
theorem sndSs_nil : SndSs K cs P [] (exSs g .nil) := ⟨_, fun _ _ => pss_nil, fun sg H r mu C hid st D w => by
  simp only [exSs] at w
  exact w _ _ _ st Grow.refl⟩
theorem sndSs_cons {st : Stmt} {rest : List Stmt} {s : S} {ss : Ss} (h1 : SndS K cs P st (exS g s)) (h2 : SndSs K cs P rest (exSs g ss)) : SndSs K cs P (st :: rest) (exSs g (.cons s ss)) := by
  obtain ⟨t, p, q⟩ := h1
  obtain ⟨t', p', q'⟩ := h2
  refine ⟨_, fun X hX => pss_cons (p X hX) (p' X hX), fun sg H r mu C hid st D w => ?_⟩
  simp only [exSs] at w
  refine q sg H r mu C hid st _ ?_
  cases e : exS g s r C with
  | nx r1 C1 =>
    rw [e] at w
    exact fun s2 H2 m2 st2 g2 => q' s2 H2 r1 m2 C1 hid st2 D (WpO.dn w g2)
  | bk r1 C1 => rw [e] at w; exact w
  | ct r1 C1 => rw [e] at w; exact w
  | rt u C1 => rw [e] at w; exact w
  | er c l C1 => rw [e] at w; exact w
  | no => rw [e] at w; exact w
theorem sndS_pass : SndS K cs P (.Pass pos) (exS g .pass) := ⟨_, fun _ _ => ps_pass, fun sg H r mu C hid st D w => by
  simp only [exS] at w
  exact w _ _ _ st Grow.refl⟩
theorem sndS_brk : SndS K cs P (.Break pos) (exS g .brk) := ⟨_, fun _ _ => ps_break, fun sg H r mu C hid st D w => by
  simp only [exS] at w
  exact w _ _ _ st Grow.refl⟩
theorem sndS_cont : SndS K cs P (.Continue pos) (exS g .cont) := ⟨_, fun _ _ => ps_continue, fun sg H r mu C hid st D w => by
  simp only [exS] at w
  exact w _ _ _ st Grow.refl⟩
theorem sndS_doc {x : Str} {j : Nat} {pos' : Pos} : SndS K cs P (.Expr (.Constant (.str x) j pos) pos') (exS g .doc) := ⟨_, fun _ _ => ps_doc, fun sg H r mu C hid st D w => by
  simp only [exS] at w
  exact w _ _ _ st Grow.refl⟩
theorem sndS_retN : SndS K cs P (.Return none pos) (exS g .retN) := ⟨_, fun _ _ => ps_retN, fun sg H r mu C hid st D w => by
  simp only [exS] at w
  exact w _ _ _ st.w Grow.refl .non⟩
theorem sndS_ret (ha : SndE K cs P a (evE g ea)) : SndS K cs P (.Return (some a) pos) (exS g (.ret ea)) := by
  obtain ⟨t, p, s⟩ := ha
  refine ⟨_, fun X hX => ps_ret (p X hX), fun sg H r mu C hid st D w => ?_⟩
  simp only [exS] at w
  exact s sg H r mu C hid st _ (w.out.mono (fun _ _ _ e => e) fun u C1 w1 v H1 mu1 k1 g1 e1 => w1 _ _ _ k1 g1 e1)
/-- not a comprehension -/
def noComp : Expr → Bool
  | .ListComp _ _ _ _ => false
  | .SetComp _ _ _ _ => false
  | .DictComp _ _ _ _ _ => false
  | _ => true
theorem swaps_no {a : Expr} {t : Option Expr} {l : Nat} {env : Env} (h : noComp a = true) : swapsWith a t l env = pure false := by
  cases a <;> first | rfl | cases h
theorem sndS_ex (hn : noComp a = true) (ha : SndE K cs P a (evE g ea)) : SndS K cs P (.Expr a pos) (exS g (.ex ea)) := by
  obtain ⟨t, p, s⟩ := ha
  refine ⟨_, fun X hX => ps_expr (p X hX) (swaps_no hn), fun sg H r mu C hid st D w => ?_⟩
  simp only [exS] at w
  exact s sg H r mu C hid st _ (w.out.mono (fun _ _ _ e => e) fun u C1 w1 v H1 mu1 k1 g1 e1 => w1 _ _ _ (st.grow k1 g1) g1)
theorem sndS_ife {x y : List Stmt} {sa sb : Ss} (ht : SndT K cs P a (evT g tt)) (ha : SndSs K cs P x (exSs g sa)) (hb : SndSs K cs P y (exSs g sb)) : SndS K cs P (.If a x y pos) (exS g (.ife tt sa sb)) := by
  obtain ⟨t, p, s⟩ := ht
  obtain ⟨t1, p1, s1⟩ := ha
  obtain ⟨t2, p2, s2⟩ := hb
  refine ⟨_, fun X hX => ps_if (p X hX) (p1 X hX) (p2 X hX), fun sg H r mu C hid st D w => ?_⟩
  simp only [exS] at w
  refine s sg H r mu C hid st _ (w.out.mono (fun _ _ _ e => e) fun k C1 w1 H1 mu1 k1 g1 => ?_)
  cases k with
  | true => exact iteT (s1 sg H1 r mu1 C1 hid (st.grow k1 g1) D (WpO.dn w1 g1))
  | false => exact iteF (s2 sg H1 r mu1 C1 hid (st.grow k1 g1) D (WpO.dn w1 g1))
/-- x = e, x a local or a cell -/
theorem sndS_nm (F : Fam K P) {i : Nat} {x : Str} {pos' : Pos} (hN : ∀ X, P X → X.N[i]? = some x) (hx : ∀ X, P X → Loc X.env.scope x) (hf : ∀ X, P X → X.fn x = true ∨ X.env.scope.names.lookup x = some .local)
    (hs : ∀ X, P X → swapsWith a (some (.Name x pos')) pos.line X.env = pure false) (ha : SndE K cs P a (evE g ea)) : SndS K cs P (.Assign [.Name x pos'] a pos) (exS g (.asg (.nm i) ea)) := by
  obtain ⟨t, p, s⟩ := ha
  refine ⟨_, fun X hX => ps_set (F.nd X hX) (hN X hX) (hx X hX) (p X hX) (hs X hX) (hf X hX), fun sg H r mu C hid st D w => ?_⟩
  simp only [exS] at w
  refine s sg H r mu C hid st _ (w.out.mono (fun _ _ _ e => e) fun u C1 w1 v H1 mu1 k1 g1 e1 => ?_)
  simp only [evG] at w1
  split at w1
  · rename_i hi
    exact w1 _ _ _ ((st.grow k1 g1).set hi e1) g1
  · exact w1.elim
/-- target = e, the target no name, the value no comprehension -/
theorem sndS_asg (hg : SndG K cs P b (gsl gg) (evG g gg)) (ha : SndE K cs P a (evE g ea)) (hn : noComp a = true) (hw : ∀ X, P X → swappedStores [b] a X.env = pure none) (h1 : ∀ X, P X → (assignEach [b] X.env).map (·.2) = [assign b X.env]) : SndS K cs P (.Assign [b] a pos) (exS g (.asg gg ea)) := by
  obtain ⟨t, p, s⟩ := ha
  obtain ⟨t', p', s'⟩ := hg
  refine ⟨_, fun X hX => ps_asg (p X hX) (p' X hX) (swaps_no hn) (hw X hX) (h1 X hX), fun sg H r mu C hid st D w => ?_⟩
  simp only [exS] at w
  refine s sg H r mu C hid st _ (w.out.mono (fun _ _ _ e => e) fun u C1 w1 v H1 mu1 k1 g1 e1 => ?_)
  exact s' sg H1 r mu1 C1 hid v u (st.grow k1 g1) e1 _ (w1.out.mono (EW.dn g1) fun r2 C2 w2 sg2 H2 mu2 st2 g2 _ => w2 _ _ _ st2 (g1.trans g2))
theorem evGs_par {i j : Nat} {u1 u2 : U} {r : Sl} : evGs g (.cons (.nm i) (.cons (.nm j) .nil)) [u1, u2] r C = if i < r.length ∧ j < r.length then .ok ((r.set i (some u1)).set j (some u2)) C else .no := by
  simp only [evGs, evG]
  by_cases h1 : i < r.length
  · by_cases h2 : j < r.length
    · simp [h1, h2, Rs.bind]
    · simp [h1, h2, Rs.bind]
  · simp [h1, Rs.bind]
/-- x, y = e, f of locals -/
theorem sndS_par (F : Fam K P) {i j : Nat} {x y : Str} {px py pt pt2 : Pos} {kt k2 : Nat} (hi : ∀ X, P X → X.N[i]? = some x) (hj : ∀ X, P X → X.N[j]? = some y) (hij : i ≠ j) (hx : ∀ X, P X → X.env.scope.names.lookup x = some .local) (hy : ∀ X, P X → X.env.scope.names.lookup y = some .local)
    (ha : SndA K cs P [a, b] (evEs g (.cons ea (.cons eb .nil)))) (hw : ∀ X, P X → swappedStores [.Tuple [.Name x px, .Name y py] kt pt] (.Tuple [a, b] k2 pt2) X.env = pure (some [x, y])) :
    SndS K cs P (.Assign [.Tuple [.Name x px, .Name y py] kt pt] (.Tuple [a, b] k2 pt2) pos) (exS g (.asg (.tp (.cons (.nm i) (.cons (.nm j) .nil))) (.tup (.cons ea (.cons eb .nil))))) := by
  obtain ⟨t, p, s⟩ := ha
  refine ⟨_, fun X hX => ps_par (F.calm X hX) (F.nd X hX) (hi X hX) (hj X hX) hij (hx X hX) (hy X hX) (p X hX) (hw X hX), fun sg H r mu C hid st D w => ?_⟩
  simp only [exS, evE] at w
  cases e : evEs g (.cons ea (.cons eb .nil)) r C with
  | no => rw [e] at w; exact w.elim
  | er c l C1 =>
    rw [e] at w
    refine s sg H r mu C hid st _ ?_
    rw [e]
    exact w
  | ok us C1 =>
    rw [e] at w
    refine s sg H r mu C hid st _ ?_
    rw [e]
    show ∀ vs H' mu', WOk K cs H' mu' C1 hid → Grow hid H mu C H' mu' C1 → RelUs K cs (Zof H' mu' C1 hid) mu' vs us → _
    intro vs H1 mu1 k1 g1 r1
    have el : us.length = 2 := by
      simp only [evEs] at e
      cases e1 : evE g ea r C with
      | no => rw [e1] at e; cases e
      | er _ _ _ => rw [e1] at e; cases e
      | ok u1 C2 =>
        rw [e1] at e
        simp only [Rs.bind] at e
        cases e2 : evE g eb r C2 with
        | no => rw [e2] at e; cases e
        | er _ _ _ => rw [e2] at e; cases e
        | ok u2 C3 =>
          rw [e2] at e
          cases e
          rfl
    match us, el, r1 with
    | [u1, u2], _, .cons (v := v1) q1 (.cons (v := v2) q2 .nil) =>
      refine ⟨v1, v2, rfl, ?_⟩
      have w : WpO K cs sg H mu C hid D ((evGs g (.cons (.nm i) (.cons (.nm j) .nil)) [u1, u2] r C1).out fun r1 C2 => .nx r1 C2) := by
        have e9 : ∀ (f : U → List Cl → Ou), ((Rs.ok [u1, u2] C1).bind fun us C1 => if us.length ≤ big then Rs.ok (U.tup us) C1 else .no).out f = f (.tup [u1, u2]) C1 := fun f => by
          show (if 2 ≤ big then Rs.ok (U.tup [u1, u2]) C1 else .no).out f = _
          rw [if_pos (by unfold big; omega)]
          rfl
        rw [e9] at w
        simp only [evG, rd] at w
        rw [if_pos (show [u1, u2].length = (Gs.cons (G.nm i) (Gs.cons (G.nm j) Gs.nil)).len from rfl)] at w
        exact w
      rw [evGs_par] at w
      by_cases h1 : i < r.length
      · by_cases h2 : j < r.length
        · rw [if_pos ⟨h1, h2⟩] at w
          exact w _ _ _ (((st.grow k1 g1).set h1 q1).set (by rw [List.length_set]; exact h2) q2) g1
        · rw [if_neg (fun z => h2 z.2)] at w
          exact w.elim
      · rw [if_neg (fun z => h1 z.1)] at w
        exact w.elim
/-- the ints behind an int -/
theorem add_ints {C : List Cl} {x y : U} {z : Int} (e : addU C x y = some (.int z)) : ∃ i j, x = .int i ∧ y = .int j ∧ z = i + j := by
  unfold addU at e
  split at e
  · rename_i i j e1 e2
    cases e
    exact ⟨i, j, rd_int e1, rd_int e2, rfl⟩
  · rename_i l l' e1 e2
    split at e
    · have e := Option.some.inj e
      split at e
      · subst e
        cases e2
      · split at e
        · subst e
          cases e1
        · cases e
    · cases e
  · unfold addL at e
    split at e
    · split at e <;> cases e
    · cases e
theorem sub_ints {x y : U} {z : Int} (e : subU x y = some (.int z)) : ∃ i j, x = .int i ∧ y = .int j ∧ z = i - j := by
  unfold subU at e
  split at e
  · cases e
    exact ⟨_, _, rfl, rfl, rfl⟩
  · cases e
theorem mul_ints {C : List Cl} {x y : U} {z : Int} (e : mulU C x y = some (.int z)) : ∃ i j, x = .int i ∧ y = .int j ∧ z = i * j ∧ CMulW i j := by
  unfold mulU at e
  split at e
  · rename_i i j e1
    split at e
    · rename_i hm
      cases e
      exact ⟨i, j, rd_int e1, rfl, rfl, show i.natAbs.log2 + j.natAbs.log2 < 1000000 from of_decide_eq_true hm⟩
    · cases e
  · split at e <;> cases e
  · unfold mulL at e
    split at e
    · split at e <;> cases e
    · cases e
theorem iop_mulW {X : Cx} : OpR X (inplaceOp .Mult) (rI CMulW fun i j => .int (i * j)) := opI fun _ _ _ _ _ _ _ hc q => imul_int q hc.ok
/-- the operators that x op= e takes -/
def augOk : BOp → Bool
  | .add => true
  | .sub => true
  | .mul => true
  | _ => false
theorem aug_rule {o : BOp} (h : augOk o = true) : ∃ r2 : R2, (∀ X, OpR X (inplaceOp (bop o)) r2) ∧ ∀ {C : List Cl} {x y : U} {z : Int}, binU C o x y = some (.int z) → ∃ i j, x = .int i ∧ y = .int j ∧ ∀ H Q, Q (.int z) H → r2 (.int i) (.int j) H Q := by
  cases o with
  | add => exact ⟨_, fun X => iop_add, fun {C x y z} e => let ⟨i, j, a1, a2, a3⟩ := add_ints e; ⟨i, j, a1, a2, fun H Q q => ⟨i, j, rfl, rfl, show Q (.int (i + j)) H by rw [← a3]; exact q⟩⟩⟩
  | sub => exact ⟨_, fun X => iop_sub, fun {C x y z} e => let ⟨i, j, a1, a2, a3⟩ := sub_ints e; ⟨i, j, a1, a2, fun H Q q => ⟨i, j, rfl, rfl, show Q (.int (i - j)) H by rw [← a3]; exact q⟩⟩⟩
  | mul => exact ⟨_, fun X => iop_mulW, fun {C x y z} e => let ⟨i, j, a1, a2, a3, a4⟩ := mul_ints e; ⟨i, j, a1, a2, fun H Q q => ⟨i, j, rfl, rfl, a4, show Q (.int (i * j)) H by rw [← a3]; exact q⟩⟩⟩
  | _ => cases h
theorem sndS_aug (F : Fam K P) {i : Nat} {x : Str} {o' : BOp} {pos' : Pos} (ho : augOk o' = true) (hN : ∀ X, P X → X.N[i]? = some x) (hx : ∀ X, P X → Loc X.env.scope x) (hf : ∀ X, P X → X.fn x = true ∨ X.env.scope.names.lookup x = some .local) (ha : SndE K cs P a (evE g ea)) :
    SndS K cs P (.AugAssign (.Name x pos') (bop o') a pos) (exS g (.aug i o' ea)) := by
  obtain ⟨t, p, s⟩ := ha
  obtain ⟨r2, ho2, hr⟩ := aug_rule ho
  refine ⟨_, fun X hX => ps_aug (F.nd X hX) (hN X hX) (hx X hX) (p X hX) (show PIp X (bop o') r2 from ho2 X) (hf X hX), fun sg H r mu C hid st D w => ?_⟩
  simp only [exS] at w
  cases e : r[i]? with
  | none => rw [e] at w; exact w.elim
  | some z =>
    cases z with
    | none => rw [e] at w; exact w.elim
    | some u =>
      rw [e] at w
      obtain ⟨v, e1, q⟩ := st.sl i u e
      have hi : i < r.length := (List.getElem?_eq_some_iff.mp e).1
      refine ⟨v, e1, ?_⟩
      refine s sg H r mu C hid st _ (w.out.mono (fun _ _ _ e => e) fun u' C1 w1 v' H1 mu1 k1 g1 e2 => ?_)
      obtain ⟨z, e3, w2⟩ := Wp.lift w1.out
      cases z with
      | int z =>
        obtain ⟨i', j', rfl, rfl, q2⟩ := hr e3
        rw [q.int_inv, e2.int_inv]
        exact q2 _ _ (w2 _ _ _ ((st.grow k1 g1).set hi (.int z)) g1)
      | _ => exact w2.elim
/-! ### loops -/
theorem forGo_cons {asg : U → Sl → List Cl → Rs Sl} {body : Sl → List Cl → Ou} {u : U} {us : List U} {r : Sl} : forGo asg body (u :: us) r C = (asg u r C).out fun r1 C1 => match body r1 C1 with
    | .nx r2 C2 => forGo asg body us r2 C2
    | .ct r2 C2 => forGo asg body us r2 C2
    | .bk r2 C2 => .nx r2 C2
    | .rt u C2 => .rt u C2
    | .er c l C2 => .er c l C2
    | .no => .no := rfl
theorem sndS_for (F : Fam K P) {tg it : Expr} {body : List Stmt} {xi : I} {sb : Ss} (hp : ∀ X, P X → PassesOwn (model X.prog X.w) X.A X.env X.xe) (hi : SndI K cs P tg it (evI g xi)) (hg : SndG K cs P tg (gsl gg) (evG g gg)) (hb : SndSs K cs P body (exSs g sb)) (hs : ∀ env x, foldedSetIterable it env x = pure x) :
    SndS K cs P (.For tg it body [] pos) (exS g (.for_ gg xi sb)) := by
  obtain ⟨ti, pi, si⟩ := hi
  obtain ⟨tgt, pg, sgt⟩ := hg
  obtain ⟨tb, pb, sb'⟩ := hb
  refine ⟨_, fun X hX => ps_for (hp X hX) (F.calm X hX) (pi X hX) (pg X hX) (pb X hX) (hs _), fun sg H r mu C hid st D w => ?_⟩
  simp only [exS] at w
  refine si sg H r mu C hid st _ (w.out.mono (fun _ _ _ e => e) fun l C1 w1 J H1 mu1 G Y k1 g1 wk ok => ?_)
  refine for_it wk (fun i sg' H' => ∃ r' mu' C', StOk K cs sg' H' r' mu' C' hid ∧ Grow hid H1 mu1 C1 H' mu' C' ∧ WpO K cs sg' H' mu' C' hid D (forGo (fun u r C => evG g gg u r C) (fun r C => exSs g sb r C) (l.drop i) r' C')) ?_ ?_ ?_ ?_
  · exact ⟨r, mu1, C1, st.grow k1 g1, Grow.refl, WpO.dn w1 g1⟩
  · rintro i sg' H' _ ⟨r', mu', C', st', g', _⟩
    exact (ok H' mu' C' hid g'.up st'.w).1
  · rintro i x sg' H2 H3 hil ⟨r', mu', C', st', g', w2⟩ hy
    obtain ⟨u, eu, k3, g3, ru⟩ := (ok H2 mu' C' hid g'.up st'.w).2 i x H3 hil hy
    rw [drop_cons eu, forGo_cons] at w2
    have w3 : WpO K cs sg' H3 mu' C' hid D _ := WpO.dn w2 g3
    refine sgt sg' H3 r' mu' C' hid x u (st'.grow k3 g3) ru _ (w3.out.mono (fun _ _ _ e => e) fun r4 C4 w4 sg4 H4 mu4 st4 g4 _ => ?_)
    refine sb' sg4 H4 r4 mu4 C4 hid st4 _ ?_
    have w5 := WpO.dn (sg' := sg4) w4 g4
    have g34 := (g'.trans g3).trans g4
    cases e : exSs g sb r4 C4 with
    | nx r5 C5 =>
      rw [e] at w5
      exact fun s5 H5 m5 st5 g5 => ⟨r5, m5, C5, st5, g34.trans g5, WpO.dn w5 g5⟩
    | ct r5 C5 =>
      rw [e] at w5
      exact fun s5 H5 m5 st5 g5 => ⟨r5, m5, C5, st5, g34.trans g5, WpO.dn w5 g5⟩
    | bk r5 C5 => rw [e] at w5; exact w5
    | rt u C5 => rw [e] at w5; exact w5
    | er c l C5 => rw [e] at w5; exact w5
    | no => rw [e] at w5; exact w5
  · rintro sg' H' ⟨r', mu', C', st', g', w2⟩
    rw [List.drop_length] at w2
    exact w2 _ _ _ st' Grow.refl
theorem sndS_while {body : List Stmt} {sb : Ss} (hp : ∀ X, P X → PassesOwn (model X.prog X.w) X.A X.env X.xe) (ht : SndT K cs P a (evT g tt)) (hb : SndSs K cs P body (exSs g sb)) : SndS K cs P (.While a body [] pos) (exS g (.while_ tt sb)) := by
  obtain ⟨t, p, s⟩ := ht
  obtain ⟨tb, pb, sb'⟩ := hb
  refine ⟨_, fun X hX => ps_while (hp X hX) (p X hX) (pb X hX), fun sg H r mu C hid st D w => ?_⟩
  simp only [exS] at w
  refine ⟨fun n sg' H' => ∃ r' mu' C', StOk K cs sg' H' r' mu' C' hid ∧ WpO K cs sg' H' mu' C' hid D (whileGo (fun r C => evT g tt r C) (fun r C => exSs g sb r C) n r' C'), ⟨g.wf, r, mu, C, st, w⟩, ?_⟩
  rintro n sg' H' ⟨r', mu', C', st', w'⟩
  cases n with
  | zero => exact w'.elim
  | succ n =>
    unfold whileGo at w'
    refine s sg' H' r' mu' C' hid st' _ (w'.out.mono (fun _ _ _ e => e) fun k C1 w1 H1 mu1 k1 g1 => ?_)
    cases k with
    | false => exact iteF (w1 _ _ _ (st'.grow k1 g1) g1)
    | true =>
      refine iteT ⟨fun s2 H2 => ∃ r2 mu2 C2, StOk K cs s2 H2 r2 mu2 C2 hid ∧ WpO K cs s2 H2 mu2 C2 hid D (whileGo (fun r C => evT g tt r C) (fun r C => exSs g sb r C) n r2 C2), fun s2 H2 h => ⟨n, Nat.lt_succ_self n, h⟩, ?_⟩
      refine sb' sg' H1 r' mu1 C1 hid (st'.grow k1 g1) _ ?_
      have w5 : WpO K cs sg' H1 mu1 C1 hid D _ := WpO.dn w1 g1
      rw [if_pos rfl] at w5
      cases e : exSs g sb r' C1 with
      | nx r5 C5 =>
        rw [e] at w5
        exact fun s5 H5 m5 st5 g5 => ⟨r5, m5, C5, st5, WpO.dn w5 g5⟩
      | ct r5 C5 =>
        rw [e] at w5
        exact fun s5 H5 m5 st5 g5 => ⟨r5, m5, C5, st5, WpO.dn w5 g5⟩
      | bk r5 C5 => rw [e] at w5; exact w5
      | rt u C5 => rw [e] at w5; exact w5
      | er c l C5 => rw [e] at w5; exact w5
      | no => rw [e] at w5; exact w5
end
end Py
namespace Py
open PySem Spec PyProof.Rows L2
def SemE (K : PySem.W.Frag) (cs : List ClsD) (f : Sl → List Cl → Rs U) (t : TE) : Prop := ∀ sg H r mu C hid, StOk K cs sg H r mu C hid → ∀ Q : VK,
  Wp (EW sg H mu C hid) (f r C) (fun u C' => ∀ v H' mu', WOk K cs H' mu' C' hid → Grow hid H mu C H' mu' C' → RelU K cs (Zof H' mu' C' hid) mu' v u → Q v H') → t sg H Q
def SemI (K : PySem.W.Frag) (cs : List ClsD) (f : Sl → List Cl → Rs (List U)) (t : TI) : Prop := ∀ sg H r mu C hid, StOk K cs sg H r mu C hid → ∀ R : It → Hp → Prop,
  Wp (EW sg H mu C hid) (f r C) (fun l C' => ∀ J H' mu' G Y, WOk K cs H' mu' C' hid → Grow hid H mu C H' mu' C' → Walk J l.length G Y → ItOk K cs H' mu' C' hid l G Y → R J H') → t sg H R
def SemG (K : PySem.W.Frag) (cs : List ClsD) (ss : List Nat) (f : U → Sl → List Cl → Rs Sl) (t : TG) : Prop := ∀ sg H r mu C hid v u, StOk K cs sg H r mu C hid → RelU K cs (Zof H mu C hid) mu v u →
  ∀ Q : L2.St → Hp → Prop, Wp (EW sg H mu C hid) (f u r C) (fun r' C' => ∀ sg' H' mu', StOk K cs sg' H' r' mu' C' hid → Grow hid H mu C H' mu' C' → Dif ss sg sg' → Q sg' H') → t v sg H Q
def SemC (K : PySem.W.Frag) (cs : List ClsD) (f : Sl → List Cl → Rs Bool) (t : TT) : Prop := ∀ sg H r mu C hid, StOk K cs sg H r mu C hid → ∀ Q : Bool → Hp → Prop,
  Wp (EW sg H mu C hid) (f r C) (fun b C' => ∀ H' mu', WOk K cs H' mu' C' hid → Grow hid H mu C H' mu' C' → Q b H') → t sg H Q
section
variable {K : PySem.W.Frag} {P : Cx → Prop} {cs : List ClsD} {a b c tg : Expr} {pos : Pos} {ea eb ec : E} {g : Gm} {es : List Expr} {xs : Es} {tt : T} {gg : G}
theorem comp_sem {m : Bool} {gg : G} {xi : I} {ee : E} {vs : List Nat} {ti : TI} {tgt : TG} {tc : TT} {te : TE} (si : SemI K cs (evI g xi) ti)
    (sgt : SemG K cs (gsl gg) (evG g gg) tgt) (sc : SemC K cs (evT g tt) tc) (se : SemE K cs (evE g ee) te) (hsub : ∀ i ∈ gsl gg, i ∈ vs) :
    SemE K cs (evE g (.comp m gg xi tt ee vs)) (tLc ti tgt tc te vs) := by
  intro sg H r mu C hid st Q w
  simp only [evE] at w
  refine si sg H r mu C hid st _ (w.bind.mono (fun _ _ _ e => e) fun l C1 w1 J H1 mu1 G Y k1 g1 wk ok D hD => ?_)
  have nh : D ∉ hid := k1.nhid hD
  cases ec : compGo (fun u r C => evG g gg u r C) (fun r C => evT g tt r C) (fun r C => evE g ee r C) l [] (wipeU r vs) C1 with
  | no => rw [ec] at w1; exact w1.elim
  | er c l' C' =>
    rw [ec] at w1
    exact w1.elim
  | ok us C2 =>
    rw [ec] at w1
    have w1 : Wp (EW sg H mu C hid) (alloc m (.lst us) C2) _ := w1
    obtain ⟨_, u2, k2⟩ := k1.newH (o := .lst []) hD
    refine lc_it wk (fun i H' => ∃ acc accV mu' C', WOk K cs H' mu' C' (D :: hid) ∧ H' D = some (.lst accV) ∧ RelUs K cs (Zof H' mu' C' (D :: hid)) mu' accV acc ∧ Up (Zof H1 mu1 C1 hid) mu1 (Zof H' mu' C' (D :: hid)) mu' ∧ (∀ a ∈ hid, H' a = H1 a) ∧
      compGo (fun u r C => evG g gg u r C) (fun r C => evT g tt r C) (fun r C => evE g ee r C) (l.drop i) acc (wipeU r vs) C' = .ok us C2) ?_ ?_ ?_ ?_
    · exact ⟨[], [], mu1, C1, k2, upd_same, .nil, u2, fun a ha => upd_ne fun e => nh (e ▸ ha), ec⟩
    · rintro i H' _ ⟨acc, accV, mu', C', k', _, _, up, _⟩
      exact (ok H' mu' C' (D :: hid) up k').1
    · rintro i x H2 H3 hil ⟨acc, accV, mu', C', k', hD', ra, up, hh, go⟩ hy
      obtain ⟨u, eu, k3, g3, ru⟩ := (ok H2 mu' C' (D :: hid) up k').2 i x H3 hil hy
      rw [drop_cons eu] at go
      rcases comp_turns go with ⟨e, _⟩ | ⟨u', us', r1, C3, e, ea, alt⟩
      · cases e
      · obtain ⟨rfl, rfl⟩ := List.cons.inj e
        have st3 : StOk K cs (wipe sg vs) H3 (wipeU r vs) mu' C' (D :: hid) := (st.wipe vs).up k3 ((g1.up.trans up).trans g3.up)
        refine sgt (wipe sg vs) H3 (wipeU r vs) mu' C' (D :: hid) x u st3 ru _ ?_
        try dsimp only at ea
        rw [ea]
        show ∀ sg' H' mu'', StOk K cs sg' H' r1 mu'' C3 (D :: hid) → Grow (D :: hid) H3 mu' C' H' mu'' C3 → Dif (gsl gg) (wipe sg vs) sg' → _
        intro sg4 H4 mu4 st4 g4 d4
        refine ⟨by rw [wipe_eq d4 hsub, wipe_wipe], ?_⟩
        refine sc sg4 H4 r1 mu4 C3 (D :: hid) st4 _ ?_
        rcases alt with ⟨C5, v, C6, et, ee', hlt, go2⟩ | ⟨C5, et, go2⟩
        · try dsimp only at et
          rw [et]
          show ∀ H' mu', WOk K cs H' mu' C5 (D :: hid) → Grow (D :: hid) H4 mu4 C3 H' mu' C5 → _
          intro H5 mu5 k5 g5
          refine iteT (se sg4 H5 r1 mu5 C5 (D :: hid) (st4.grow k5 g5) _ ?_)
          try dsimp only at ee'
          rw [ee']
          show ∀ v' H' mu', WOk K cs H' mu' C6 (D :: hid) → Grow (D :: hid) H5 mu5 C5 H' mu' C6 → RelU K cs (Zof H' mu' C6 (D :: hid)) mu' v' v → _
          intro y H6 mu6 k6 g6 r6
          have gall := ((g3.trans g4).trans g5).trans g6
          have hD6 : H6 D = some (.lst accV) := (gall.hid D List.mem_cons_self).trans hD'
          obtain ⟨u7, k7, h7⟩ := k6.setH (o := .lst (accV ++ [y])) nh
          refine ⟨accV, hD6, ?_, acc ++ [v], accV ++ [y], mu6, C6, k7, upd_same, ?_, (up.trans gall.up).trans u7, fun a ha => ?_, go2⟩
          · rw [ra.length]
            exact big_lt hlt
          · exact ((ra.up (gall.up.trans u7)).append (.cons (r6.up u7) .nil))
          · rw [h7 a ha, gall.hid a (List.mem_cons_of_mem _ ha), hh a ha]
        · try dsimp only at et
          rw [et]
          show ∀ H' mu', WOk K cs H' mu' C5 (D :: hid) → Grow (D :: hid) H4 mu4 C3 H' mu' C5 → _
          intro H5 mu5 k5 g5
          have gall := (g3.trans g4).trans g5
          refine iteF ⟨acc, accV, mu5, C5, k5, (gall.hid D List.mem_cons_self).trans hD', ra.up gall.up, up.trans gall.up, fun a ha => ?_, go2⟩
          rw [gall.hid a (List.mem_cons_of_mem _ ha), hh a ha]
    · rintro H' ⟨acc, accV, mu', C', k', hD', ra, up, hh, go⟩
      rw [List.drop_length] at go
      unfold compGo at go
      cases go
      exact alloc_hid k' nh hD' (g1.up.trans up) (fun a ha => (hh a ha).trans (g1.hid a ha)) ra w1
/-- x = e, by its meaning -/
def SndAs (K : PySem.W.Frag) (cs : List ClsD) (P : Cx → Prop) (i : Nat) (y : Str) (py spos : Pos) (x : Expr) (f : Sl → List Cl → Rs U) : Prop := ∃ t : TE, (∀ X, P X → PS X (.Assign [.Name y py] x spos) (tAsg t (gName i))) ∧ SemE K cs f t
theorem sndS_as {i : Nat} {y : Str} {py : Pos} (h : SndAs K cs P i y py pos a (evE g ea)) : SndS K cs P (.Assign [.Name y py] a pos) (exS g (.asg (.nm i) ea)) := by
  obtain ⟨t, p, s⟩ := h
  refine ⟨_, p, fun sg H r mu C hid st D w => ?_⟩
  simp only [exS] at w
  refine s sg H r mu C hid st _ (w.out.mono (fun _ _ _ e => e) fun u C1 w1 v H1 mu1 k1 g1 e1 => ?_)
  simp only [evG] at w1
  split at w1
  · rename_i hi
    exact w1 _ _ _ ((st.grow k1 g1).set hi e1) g1
  · exact w1.elim
theorem sndAs_set (F : Fam K P) {i : Nat} {x : Str} {pos' : Pos} {f : Sl → List Cl → Rs U} (hN : ∀ X, P X → X.N[i]? = some x) (hx : ∀ X, P X → Loc X.env.scope x) (hf : ∀ X, P X → X.fn x = true ∨ X.env.scope.names.lookup x = some .local)
    (hs : ∀ X, P X → swapsWith a (some (.Name x pos')) pos.line X.env = pure false) (ha : SndE K cs P a f) : SndAs K cs P i x pos' pos a f := by
  obtain ⟨t, p, s⟩ := ha
  exact ⟨t, fun X hX => ps_set (F.nd X hX) (hN X hX) (hx X hX) (p X hX) (hs X hX) (hf X hX), s⟩
/-- the parts of a comprehension -/
theorem snd_lc (F : Fam K P) {it elt : Expr} {ifs : List Expr} {scope : Scope} {own : List (Str × Nat)} {m : Bool} {gg : G} {xi : I} {ee : E} (hok : ∀ X, P X → BlkOk X.N X.env.scope scope own) (hi : SndI K cs P tg it (evI g xi))
    (hg : SndG K cs (Blk P scope) tg (gsl gg) (evG g gg)) (ht : SndC K cs (Blk P scope) ifs (evT g tt)) (he : SndE K cs (Blk P scope) elt (evE g ee)) (hsub : ∀ i ∈ gsl gg, i ∈ own.map (·.2)) (hs : ∀ env x, foldedSetIterable it env x = pure x) :
    SndE K cs P (.ListComp elt [⟨tg, it, ifs, 0⟩] scope pos) (evE g (.comp m gg xi tt ee (own.map (·.2)))) ∧
    ∀ {i : Nat} {y : Str} {py spos : Pos}, (∀ X, P X → X.N[i]? = some y) → (∀ X, P X → X.env.scope.names.lookup y = some .local) → (∀ X, P X → swapsWith (.ListComp elt [⟨tg, it, ifs, 0⟩] scope pos) (some (.Name y py)) spos.line X.env = pure true) →
      SndAs K cs P i y py spos (.ListComp elt [⟨tg, it, ifs, 0⟩] scope pos) (evE g (.comp m gg xi tt ee (own.map (·.2)))) := by
  obtain ⟨ti, pi, si⟩ := hi
  obtain ⟨tgt, pg, sgt⟩ := hg
  obtain ⟨tc, pc, sc⟩ := ht
  obtain ⟨te, pe, se⟩ := he
  have sem := comp_sem (m := m) si sgt sc se hsub
  exact ⟨⟨_, fun X hX => pe_lc (F.calm X hX) (F.nd X hX) (pi X hX) (hok X hX) (fun s H C cl fp => pg _ ⟨X, s, H, C, cl, fp, hX, rfl⟩) (fun s H C cl fp => pc _ ⟨X, s, H, C, cl, fp, hX, rfl⟩) (fun s H C cl fp => pe _ ⟨X, s, H, C, cl, fp, hX, rfl⟩) (hs _), sem⟩,
    fun hN hl hw => ⟨_, fun X hX => ps_setLc (F.calm X hX) (F.nd X hX) (hN X hX) (hl X hX) (hw X hX) (pi X hX) (hok X hX) (fun s H C cl fp => pg _ ⟨X, s, H, C, cl, fp, hX, rfl⟩) (fun s H C cl fp => pc _ ⟨X, s, H, C, cl, fp, hX, rfl⟩) (fun s H C cl fp => pe _ ⟨X, s, H, C, cl, fp, hX, rfl⟩) (hs _), sem⟩⟩
theorem comp2_turns {asg : U → Sl → List Cl → Rs Sl} {tst : Sl → List Cl → Rs Bool} {inn : List U → Sl → List Cl → Rs (List U)} {us acc : List U} {r : Sl} {C : List Cl} {l : List U} {C' : List Cl} (h : comp2Go asg tst inn us acc r C = .ok l C') :
    (us = [] ∧ l = acc ∧ C' = C) ∨ ∃ u us' r1 C1, us = u :: us' ∧ asg u r C = .ok r1 C1 ∧ ((∃ C2 acc2 C3, tst r1 C1 = .ok true C2 ∧ inn acc r1 C2 = .ok acc2 C3 ∧ comp2Go asg tst inn us' acc2 r C3 = .ok l C') ∨
      (∃ C2, tst r1 C1 = .ok false C2 ∧ comp2Go asg tst inn us' acc r C2 = .ok l C')) := by
  cases us with
  | nil =>
    unfold comp2Go at h
    cases h
    exact .inl ⟨rfl, rfl, rfl⟩
  | cons u us' =>
    unfold comp2Go at h
    cases e1 : asg u r C with
    | no => rw [e1] at h; cases h
    | er _ _ _ => rw [e1] at h; cases h
    | ok r1 C1 =>
      rw [e1] at h
      dsimp only at h
      refine .inr ⟨u, us', r1, C1, rfl, e1, ?_⟩
      cases e2 : tst r1 C1 with
      | no => rw [e2] at h; cases h
      | er _ _ _ => rw [e2] at h; cases h
      | ok b C2 =>
        rw [e2] at h
        cases b with
        | false => exact .inr ⟨C2, rfl, h⟩
        | true =>
          dsimp only at h
          cases e3 : inn acc r1 C2 with
          | no => rw [e3] at h; cases h
          | er _ _ _ => rw [e3] at h; cases h
          | ok acc2 C3 =>
            rw [e3] at h
            exact .inl ⟨C2, acc2, C3, rfl, e3, h⟩
theorem lc_it1 {J : It} {n : Nat} {G : Hp → Prop} {Y : Nat → Hp → V → Hp → Prop} (w : Walk J n G Y) {g1 : TG} {tt1 : TT} {te : TE} {vs1 : List Nat} {σ2 : L2.St} {H4 : Hp} {D : Addr} {Nx : Hp → Prop} (Pv : Nat → Hp → Prop) (h0 : Pv 0 H4) (hG : ∀ i H, i ≤ n → Pv i H → G H)
    (hs : ∀ i x H H', i < n → Pv i H → Y i H x H' → g1 x (wipe σ2 vs1) H' fun σ3 H5 => wipe σ3 vs1 = wipe σ2 vs1 ∧ tt1 σ3 H5 fun b H6 =>
      if b = true then te σ3 H6 fun y H7 => ∃ acc, H7 D = some (.lst acc) ∧ acc.length < sizeLine ∧ Pv (i + 1) (upd H7 D (.lst (acc ++ [y]))) else Pv (i + 1) H6) (hd : ∀ H, Pv n H → Nx H) :
    ∃ W1 : Nat → Nat → Hp → Prop, (∃ m, W1 0 m H4) ∧ ∀ j k H, W1 j k H →
      (J.stop j H ∧ Nx H) ∨ (J.go j H ∧ ∃ Nx1 : Hp → Prop, (∀ H', Nx1 H' → ∃ k', k' < k ∧ W1 (j + 1) k' H') ∧ ∀ x H', J.yld j H x H' → g1 x (wipe σ2 vs1) H' fun σ3 H5 => wipe σ3 vs1 = wipe σ2 vs1 ∧ tt1 σ3 H5 fun b H6 =>
        if b = true then te σ3 H6 fun y H7 => ∃ acc, H7 D = some (.lst acc) ∧ acc.length < sizeLine ∧ Nx1 (upd H7 D (.lst (acc ++ [y]))) else Nx1 H6) := by
  refine ⟨fun i m H => m = n - i ∧ i ≤ n ∧ Pv i H, ⟨n, by simp, Nat.zero_le _, h0⟩, ?_⟩
  rintro i m H ⟨rfl, hi, p⟩
  have q := hG i H hi p
  by_cases hlt : i < n
  · refine .inr ⟨w.goes i H hlt q, Pv (i + 1), fun H' p' => ⟨n - (i + 1), by omega, rfl, hlt, p'⟩, fun x H' y => hs i x H H' hlt p (w.yields i H x H' hlt q y)⟩
  · have e : i = n := by omega
    subst e
    exact .inl ⟨w.stops H q, hd H p⟩
theorem comp2_sem {m : Bool} {gg g1 : G} {xi xi1 : I} {t1 : T} {ee : E} {vs vs1 : List Nat} {ti ti1 : TI} {tgt tgt1 : TG} {tc tc1 : TT} {te : TE} (si : SemI K cs (evI g xi) ti)
    (sgt : SemG K cs (gsl gg) (evG g gg) tgt) (sc : SemC K cs (evT g tt) tc) (si1 : SemI K cs (evI g xi1) ti1) (sgt1 : SemG K cs (gsl g1) (evG g g1) tgt1) (sc1 : SemC K cs (evT g t1) tc1) (se : SemE K cs (evE g ee) te) (hsub : ∀ i ∈ gsl gg, i ∈ vs) (hsub1 : ∀ i ∈ gsl g1, i ∈ vs1) :
    SemE K cs (evE g (.comp2 m gg xi tt g1 xi1 t1 ee vs vs1)) (tLc2 ti tgt tc ti1 tgt1 tc1 te vs vs1) := by
  intro sg H r mu C hid st Q w
  simp only [evE] at w
  refine si sg H r mu C hid st _ (w.bind.mono (fun _ _ _ e => e) fun l C1 w1 J H1 mu1 G Y k1 g1' wk ok D hD => ?_)
  have nh : D ∉ hid := k1.nhid hD
  generalize hinn : (fun (acc : List U) (r : Sl) (C : List Cl) => (evI g xi1 r C).bind fun l1 C2 => compGo (fun u r C => evG g g1 u r C) (fun r C => evT g t1 r C) (fun r C => evE g ee r C) l1 acc (wipeU r vs1) C2) = inn at w1
  cases ec : comp2Go (fun u r C => evG g gg u r C) (fun r C => evT g tt r C) inn l [] (wipeU r vs) C1 with
  | no => rw [ec] at w1; exact w1.elim
  | er c l' C' =>
    rw [ec] at w1
    exact w1.elim
  | ok us C2 =>
    rw [ec] at w1
    have w1 : Wp (EW sg H mu C hid) (alloc m (.lst us) C2) _ := w1
    obtain ⟨_, u2, k2⟩ := k1.newH (o := .lst []) hD
    -- what holds between turns
    let Pv : Nat → Hp → Prop := fun i H' => ∃ acc accV mu' C', WOk K cs H' mu' C' (D :: hid) ∧ H' D = some (.lst accV) ∧ RelUs K cs (Zof H' mu' C' (D :: hid)) mu' accV acc ∧ Up (Zof H1 mu1 C1 hid) mu1 (Zof H' mu' C' (D :: hid)) mu' ∧ (∀ a ∈ hid, H' a = H1 a) ∧
      comp2Go (fun u r C => evG g gg u r C) (fun r C => evT g tt r C) inn (l.drop i) acc (wipeU r vs) C' = .ok us C2
    have fin : ∀ H', Pv l.length H' → Q (.ref D) H' := by
      rintro H' ⟨acc, accV, mu', C', k', hD', ra, up, hh, go⟩
      rw [List.drop_length] at go
      unfold comp2Go at go
      cases go
      exact alloc_hid k' nh hD' (g1'.up.trans up) (fun a ha => (hh a ha).trans (g1'.hid a ha)) ra w1
    have h0 : Pv 0 (upd H1 D (.lst [])) := ⟨[], [], mu1, C1, k2, upd_same, .nil, u2, fun a ha => upd_ne fun e => nh (e ▸ ha), ec⟩
    have hG : ∀ i H', i ≤ l.length → Pv i H' → G H' := by
      rintro i H' _ ⟨acc, accV, mu', C', k', _, _, up, _⟩
      exact (ok H' mu' C' (D :: hid) up k').1
    refine ⟨fun i m H => m = l.length - i ∧ i ≤ l.length ∧ Pv i H, ⟨l.length, by simp, Nat.zero_le _, h0⟩, ?_⟩
    rintro i m H2 ⟨rfl, hi, p⟩
    by_cases hil : i < l.length
    · refine .inr ⟨wk.goes i H2 hil (hG i H2 hi p), Pv (i + 1), fun H' p' => ⟨l.length - (i + 1), by omega, rfl, hil, p'⟩, fun x H3 hy0 => ?_⟩
      have hy := wk.yields i H2 x H3 hil (hG i H2 hi p) hy0
      obtain ⟨acc, accV, mu', C', k', hD', ra, up, hh, go⟩ := p
      obtain ⟨u, eu, k3, g3, ru⟩ := (ok H2 mu' C' (D :: hid) up k').2 i x H3 hil hy
      rw [drop_cons eu] at go
      rcases comp2_turns go with ⟨e, _⟩ | ⟨u', us', r1, C3, e, ea, alt⟩
      · cases e
      · obtain ⟨rfl, rfl⟩ := List.cons.inj e
        have st3 : StOk K cs (wipe sg vs) H3 (wipeU r vs) mu' C' (D :: hid) := (st.wipe vs).up k3 ((g1'.up.trans up).trans g3.up)
        refine sgt (wipe sg vs) H3 (wipeU r vs) mu' C' (D :: hid) x u st3 ru _ ?_
        try dsimp only at ea
        rw [ea]
        show ∀ sg' H' mu'', StOk K cs sg' H' r1 mu'' C3 (D :: hid) → Grow (D :: hid) H3 mu' C' H' mu'' C3 → Dif (gsl gg) (wipe sg vs) sg' → _
        intro sg4 H4 mu4 st4 g4 d4
        refine ⟨by rw [wipe_eq d4 hsub, wipe_wipe], ?_⟩
        refine sc sg4 H4 r1 mu4 C3 (D :: hid) st4 _ ?_
        rcases alt with ⟨C5, acc2, C6, et, ee', go2⟩ | ⟨C5, et, go2⟩
        · try dsimp only at et
          rw [et]
          show ∀ H' mu', WOk K cs H' mu' C5 (D :: hid) → Grow (D :: hid) H4 mu4 C3 H' mu' C5 → _
          intro H5 mu5 k5 g5
          subst hinn
          dsimp only at ee'
          refine iteT (si1 sg4 H5 r1 mu5 C5 (D :: hid) (st4.grow k5 g5) _ ?_)
          cases e7 : evI g xi1 r1 C5 with
          | no => rw [e7] at ee'; cases ee'
          | er _ _ _ => rw [e7] at ee'; cases ee'
          | ok l1 C7 =>
            rw [e7] at ee'
            replace ee' : compGo (fun u r C => evG g g1 u r C) (fun r C => evT g t1 r C) (fun r C => evE g ee r C) l1 acc (wipeU r1 vs1) C7 = .ok acc2 C6 := ee'
            intro J1 H7 mu7 G1 Y1 k7 g7 wk1 ok1
            have gg7 := ((g3.trans g4).trans g5).trans g7
            refine lc_it1 wk1 (fun j H' => ∃ acc accV mu' C', WOk K cs H' mu' C' (D :: hid) ∧ H' D = some (.lst accV) ∧ RelUs K cs (Zof H' mu' C' (D :: hid)) mu' accV acc ∧ Up (Zof H7 mu7 C7 (D :: hid)) mu7 (Zof H' mu' C' (D :: hid)) mu' ∧ (∀ a ∈ hid, H' a = H1 a) ∧
              compGo (fun u r C => evG g g1 u r C) (fun r C => evT g t1 r C) (fun r C => evE g ee r C) (l1.drop j) acc (wipeU r1 vs1) C' = .ok acc2 C6) ?_ ?_ ?_ ?_
            · refine ⟨acc, accV, mu7, C7, k7, (gg7.hid D List.mem_cons_self).trans hD', ra.up gg7.up, Up.refl, fun a ha => ?_, ee'⟩
              rw [gg7.hid a (List.mem_cons_of_mem _ ha), hh a ha]
            · rintro j H' _ ⟨acc, accV, mu', C', k', _, _, up, _⟩
              exact (ok1 H' mu' C' (D :: hid) up k').1
            · rintro j x' H8 H9 hjl ⟨acc, accV, mu8, C8, k8, hD8, ra8, up8, hh8, go8⟩ hy8
              obtain ⟨u8, eu8, k9, g9, ru9⟩ := (ok1 H8 mu8 C8 (D :: hid) up8 k8).2 j x' H9 hjl hy8
              rw [drop_cons eu8] at go8
              rcases comp_turns go8 with ⟨e, _⟩ | ⟨u', us'', r9, C9, e, ea9, alt9⟩
              · cases e
              · obtain ⟨rfl, rfl⟩ := List.cons.inj e
                have st9 : StOk K cs (wipe sg4 vs1) H9 (wipeU r1 vs1) mu8 C8 (D :: hid) := (st4.wipe vs1).up k9 (((g5.up.trans g7.up).trans up8).trans g9.up)
                refine sgt1 (wipe sg4 vs1) H9 (wipeU r1 vs1) mu8 C8 (D :: hid) x' u8 st9 ru9 _ ?_
                try dsimp only at ea9
                rw [ea9]
                show ∀ sg' H' mu'', StOk K cs sg' H' r9 mu'' C9 (D :: hid) → Grow (D :: hid) H9 mu8 C8 H' mu'' C9 → Dif (gsl g1) (wipe sg4 vs1) sg' → _
                intro sgA HA muA stA gA dA
                refine ⟨by rw [wipe_eq dA hsub1, wipe_wipe], ?_⟩
                refine sc1 sgA HA r9 muA C9 (D :: hid) stA _ ?_
                rcases alt9 with ⟨CB, v, CD, etB, eeB, hlt, goB⟩ | ⟨CB, etB, goB⟩
                · try dsimp only at etB
                  rw [etB]
                  show ∀ H' mu', WOk K cs H' mu' CB (D :: hid) → Grow (D :: hid) HA muA C9 H' mu' CB → _
                  intro HB muB kB gB
                  refine iteT (se sgA HB r9 muB CB (D :: hid) (stA.grow kB gB) _ ?_)
                  try dsimp only at eeB
                  rw [eeB]
                  show ∀ v' H' mu', WOk K cs H' mu' CD (D :: hid) → Grow (D :: hid) HB muB CB H' mu' CD → RelU K cs (Zof H' mu' CD (D :: hid)) mu' v' v → _
                  intro y HD muD kD gD rD
                  have gall := ((g9.trans gA).trans gB).trans gD
                  have hDD : HD D = some (.lst accV) := (gall.hid D List.mem_cons_self).trans hD8
                  obtain ⟨uE, kE, hE⟩ := kD.setH (o := .lst (accV ++ [y])) nh
                  refine ⟨accV, hDD, ?_, acc ++ [v], accV ++ [y], muD, CD, kE, upd_same, ?_, (up8.trans gall.up).trans uE, fun a ha => ?_, goB⟩
                  · rw [ra8.length]
                    exact big_lt hlt
                  · exact ((ra8.up (gall.up.trans uE)).append (.cons (rD.up uE) .nil))
                  · rw [hE a ha, gall.hid a (List.mem_cons_of_mem _ ha), hh8 a ha]
                · try dsimp only at etB
                  rw [etB]
                  show ∀ H' mu', WOk K cs H' mu' CB (D :: hid) → Grow (D :: hid) HA muA C9 H' mu' CB → _
                  intro HB muB kB gB
                  have gall := (g9.trans gA).trans gB
                  refine iteF ⟨acc, accV, muB, CB, kB, (gall.hid D List.mem_cons_self).trans hD8, ra8.up gall.up, up8.trans gall.up, fun a ha => ?_, goB⟩
                  rw [gall.hid a (List.mem_cons_of_mem _ ha), hh8 a ha]
            · rintro H' ⟨acc, accV, mu', C', k', hD', ra, up', hh, go⟩
              rw [List.drop_length] at go
              unfold compGo at go
              cases go
              exact ⟨_, accV, mu', _, k', hD', ra, (up.trans gg7.up).trans up', hh, go2⟩
        · try dsimp only at et
          rw [et]
          show ∀ H' mu', WOk K cs H' mu' C5 (D :: hid) → Grow (D :: hid) H4 mu4 C3 H' mu' C5 → _
          intro H5 mu5 k5 g5
          have gall := (g3.trans g4).trans g5
          refine iteF ⟨acc, accV, mu5, C5, k5, (gall.hid D List.mem_cons_self).trans hD', ra.up gall.up, up.trans gall.up, fun a ha => ?_, go2⟩
          rw [gall.hid a (List.mem_cons_of_mem _ ha), hh a ha]
    · have e : i = l.length := by omega
      subst e
      exact .inl ⟨wk.stops H2 (hG _ H2 hi p), fin H2 p⟩
theorem snd_lc2 (F : Fam K P) {it elt tg1 it1 : Expr} {ifs ifs1 : List Expr} {scope : Scope} {own : List (Str × Nat)} {vs1 : List Nat} {m : Bool} {gg g1 : G} {xi xi1 : I} {t1 : T} {ee : E} (hok : ∀ X, P X → BlkOk X.N X.env.scope scope own) (hv : ∀ i ∈ vs1, i ∈ own.map (·.2)) (hi : SndI K cs P tg it (evI g xi))
    (hg : SndG K cs (Blk P scope) tg (gsl gg) (evG g gg)) (ht : SndC K cs (Blk P scope) ifs (evT g tt)) (hi1 : SndI K cs (Blk P scope) tg1 it1 (evI g xi1)) (hg1 : SndG K cs (Blk P scope) tg1 (gsl g1) (evG g g1)) (ht1 : SndC K cs (Blk P scope) ifs1 (evT g t1)) (he : SndE K cs (Blk P scope) elt (evE g ee))
    (hsub : ∀ i ∈ gsl gg, i ∈ own.map (·.2)) (hsub1 : ∀ i ∈ gsl g1, i ∈ vs1) (hs : ∀ env x, foldedSetIterable it env x = pure x) (hs1 : ∀ env x, foldedSetIterable it1 env x = pure x) :
    SndE K cs P (.ListComp elt [⟨tg, it, ifs, 0⟩, ⟨tg1, it1, ifs1, 0⟩] scope pos) (evE g (.comp2 m gg xi tt g1 xi1 t1 ee (own.map (·.2)) vs1)) ∧
    ∀ {i : Nat} {y : Str} {py spos : Pos}, (∀ X, P X → X.N[i]? = some y) → (∀ X, P X → X.env.scope.names.lookup y = some .local) → (∀ X, P X → swapsWith (.ListComp elt [⟨tg, it, ifs, 0⟩, ⟨tg1, it1, ifs1, 0⟩] scope pos) (some (.Name y py)) spos.line X.env = pure true) →
      SndAs K cs P i y py spos (.ListComp elt [⟨tg, it, ifs, 0⟩, ⟨tg1, it1, ifs1, 0⟩] scope pos) (evE g (.comp2 m gg xi tt g1 xi1 t1 ee (own.map (·.2)) vs1)) := by
  obtain ⟨ti, pi, si⟩ := hi
  obtain ⟨tgt, pg, sgt⟩ := hg
  obtain ⟨tc, pc, sc⟩ := ht
  obtain ⟨ti1, pi1, si1⟩ := hi1
  obtain ⟨tgt1, pg1, sgt1⟩ := hg1
  obtain ⟨tc1, pc1, sc1⟩ := ht1
  obtain ⟨te, pe, se⟩ := he
  have sem := comp2_sem (m := m) si sgt sc si1 sgt1 sc1 se hsub hsub1
  exact ⟨⟨_, fun X hX => pe_lc2 (F.calm X hX) (F.nd X hX) (pi X hX) (hok X hX) hv (fun s H C cl fp => pg _ ⟨X, s, H, C, cl, fp, hX, rfl⟩) (fun s H C cl fp => pc _ ⟨X, s, H, C, cl, fp, hX, rfl⟩) (fun s H C cl fp => pi1 _ ⟨X, s, H, C, cl, fp, hX, rfl⟩) (fun s H C cl fp => pg1 _ ⟨X, s, H, C, cl, fp, hX, rfl⟩) (fun s H C cl fp => pc1 _ ⟨X, s, H, C, cl, fp, hX, rfl⟩) (fun s H C cl fp => pe _ ⟨X, s, H, C, cl, fp, hX, rfl⟩) (hs _) hs1, sem⟩,
    fun hN hl hw => ⟨_, fun X hX => ps_setLc2 (F.calm X hX) (F.nd X hX) (hN X hX) (hl X hX) (hw X hX) (pi X hX) (hok X hX) hv (fun s H C cl fp => pg _ ⟨X, s, H, C, cl, fp, hX, rfl⟩) (fun s H C cl fp => pc _ ⟨X, s, H, C, cl, fp, hX, rfl⟩) (fun s H C cl fp => pi1 _ ⟨X, s, H, C, cl, fp, hX, rfl⟩) (fun s H C cl fp => pg1 _ ⟨X, s, H, C, cl, fp, hX, rfl⟩) (fun s H C cl fp => pc1 _ ⟨X, s, H, C, cl, fp, hX, rfl⟩) (fun s H C cl fp => pe _ ⟨X, s, H, C, cl, fp, hX, rfl⟩) (hs _) hs1, sem⟩⟩
end
end Py
namespace Py
open PySem Spec PyProof.Rows L2
/-- a value, or a new list or dict, is given on -/
abbrev AW (K : PySem.W.Frag) (cs : List ClsD) (sg : L2.St) (H0 : Hp) (mu0 : List Addr) (C0 : List Cl) (hid : List Addr) (Q : VK) (m : Bool) (u : U) (C : List Cl) : Prop :=
  Wp (EW sg H0 mu0 C0 hid) (alloc m u C) (fun w C' => ∀ v' H' mu', WOk K cs H' mu' C' hid → Grow hid H0 mu0 C0 H' mu' C' → RelU K cs (Zof H' mu' C' hid) mu' v' w → Q v' H')
def isSc : U → Bool
  | .lst _ => false
  | .dic _ _ => false
  | _ => true
section
variable {K : PySem.W.Frag} {P : Cx → Prop} {cs : List ClsD} {a b c : Expr} {pos : Pos} {ea eb ec : E} {g : Gm} {es : List Expr} {xs : Es} {sg : L2.St} {H0 H : Hp} {mu0 mu : List Addr} {C0 C : List Cl} {hid : List Addr} {Q : VK} {m : Bool} {u : U} {v : V}
theorem AW.keep (k : WOk K cs H mu C hid) (gr : Grow hid H0 mu0 C0 H mu C) (hf : isSc u = true) (r : RelU K cs (Zof H mu C hid) mu v u) (w : AW K cs sg H0 mu0 C0 hid Q m u C) : Q v H := by
  cases m with
  | false => exact w _ _ _ k gr r
  | true =>
    cases u with
    | lst l => cases hf
    | dic t l => cases hf
    | _ => exact w.elim
theorem ints_val {Z : Hp} : ∀ {vs : List V} {us : List U} {ns : List Int}, RelUs K cs Z mu vs us → intsU us = some ns → vs = ns.map V.int
  | _, _, _, .nil, e => by cases e; rfl
  | _, _, ns, .cons (u := u) (us := us) h r, e => by
    cases u with
    | int i =>
      unfold intsU at e
      cases e1 : intsU us with
      | none => rw [e1] at e; cases e
      | some ms =>
        rw [e1] at e
        cases e
        rw [h.int_inv, ints_val r e1]
        rfl
    | _ => cases e
theorem rel_ints {Z : Hp} : ∀ ns : List Int, RelUs K cs Z mu (ns.map V.int) (ns.map U.int)
  | [] => .nil
  | n :: ns => .cons (.int n) (rel_ints ns)
theorem bools_val {Z : Hp} : ∀ {vs : List V} {us : List U} {bs : List Bool}, RelUs K cs Z mu vs us → boolsU us = some bs → vs = bs.map V.bl
  | _, _, _, .nil, e => by cases e; rfl
  | _, _, ns, .cons (u := u) (us := us) h r, e => by
    cases u with
    | bl i =>
      unfold boolsU at e
      cases e1 : boolsU us with
      | none => rw [e1] at e; cases e
      | some ms =>
        rw [e1] at e
        cases e
        rw [h.bl_inv, bools_val r e1]
        rfl
    | _ => cases e
theorem fold_min : ∀ (xs : List Int) (x : Int), let k := xs.foldl (fun m y => if y < m then y else m) x; (k = x ∨ k ∈ xs) ∧ k ≤ x ∧ ∀ y ∈ xs, k ≤ y
  | [], x => ⟨.inl rfl, Int.le_refl _, fun y hy => by cases hy⟩
  | z :: xs, x => by
    obtain ⟨h1, h2, h3⟩ := fold_min xs (if z < x then z else x)
    simp only [List.foldl_cons]
    refine ⟨?_, ?_, fun y hy => ?_⟩
    · rcases h1 with e | h1
      · by_cases hz : z < x
        · rw [if_pos hz] at e ⊢
          exact .inr (by rw [e]; exact List.mem_cons_self)
        · rw [if_neg hz] at e ⊢
          exact .inl e
      · exact .inr (List.mem_cons_of_mem _ h1)
    · by_cases hz : z < x
      · rw [if_pos hz] at h2 ⊢
        omega
      · rw [if_neg hz] at h2 ⊢
        exact h2
    · rcases List.mem_cons.mp hy with e | hy
      · subst e
        by_cases hz : y < x
        · rw [if_pos hz] at h2 ⊢
          exact h2
        · rw [if_neg hz] at h2 ⊢
          omega
      · exact h3 y hy
theorem fold_max : ∀ (xs : List Int) (x : Int), let k := xs.foldl (fun m y => if m < y then y else m) x; (k = x ∨ k ∈ xs) ∧ x ≤ k ∧ ∀ y ∈ xs, y ≤ k
  | [], x => ⟨.inl rfl, Int.le_refl _, fun y hy => by cases hy⟩
  | z :: xs, x => by
    obtain ⟨h1, h2, h3⟩ := fold_max xs (if x < z then z else x)
    simp only [List.foldl_cons]
    refine ⟨?_, ?_, fun y hy => ?_⟩
    · rcases h1 with e | h1
      · by_cases hz : x < z
        · rw [if_pos hz] at e ⊢
          exact .inr (by rw [e]; exact List.mem_cons_self)
        · rw [if_neg hz] at e ⊢
          exact .inl e
      · exact .inr (List.mem_cons_of_mem _ h1)
    · by_cases hz : x < z
      · rw [if_pos hz] at h2 ⊢
        omega
      · rw [if_neg hz] at h2 ⊢
        exact h2
    · rcases List.mem_cons.mp hy with e | hy
      · subst e
        by_cases hz : x < y
        · rw [if_pos hz] at h2 ⊢
          exact h2
        · rw [if_neg hz] at h2 ⊢
          omega
      · exact h3 y hy
theorem minI_spec {ns : List Int} {k : Int} (e : minI ns = some k) : 0 < ns.length ∧ k ∈ ns ∧ ∀ y ∈ ns, k ≤ y := by
  cases ns with
  | nil => cases e
  | cons x xs =>
    cases e
    obtain ⟨h1, h2, h3⟩ := fold_min xs x
    refine ⟨Nat.succ_pos _, ?_, fun y hy => ?_⟩
    · rcases h1 with e | h1
      · rw [e]; exact List.mem_cons_self
      · exact List.mem_cons_of_mem _ h1
    · rcases List.mem_cons.mp hy with e | hy
      · rw [e]; exact h2
      · exact h3 y hy
theorem maxI_spec {ns : List Int} {k : Int} (e : maxI ns = some k) : 0 < ns.length ∧ k ∈ ns ∧ ∀ y ∈ ns, y ≤ k := by
  cases ns with
  | nil => cases e
  | cons x xs =>
    cases e
    obtain ⟨h1, h2, h3⟩ := fold_max xs x
    refine ⟨Nat.succ_pos _, ?_, fun y hy => ?_⟩
    · rcases h1 with e | h1
      · rw [e]; exact List.mem_cons_self
      · exact List.mem_cons_of_mem _ h1
    · rcases List.mem_cons.mp hy with e | hy
      · rw [e]; exact h2
      · exact h3 y hy
theorem insI_perm (x : Int) : ∀ l : List Int, (insI x l).Perm (x :: l)
  | [] => .refl _
  | y :: ys => by
    unfold insI
    split
    · exact .refl _
    · exact ((insI_perm x ys).cons y).trans (.swap x y ys)
theorem sortI_perm : ∀ l : List Int, (sortI l).Perm l
  | [] => .refl _
  | x :: xs => (insI_perm x (sortI xs)).trans ((sortI_perm xs).cons x)
theorem insI_srt (x : Int) : ∀ l : List Int, l.Pairwise (· ≤ ·) → (insI x l).Pairwise (· ≤ ·)
  | [], _ => by unfold insI; exact List.pairwise_singleton _ _
  | y :: ys, h => by
    obtain ⟨h1, h2⟩ := List.pairwise_cons.mp h
    unfold insI
    split
    · rename_i hx
      refine List.pairwise_cons.mpr ⟨fun z hz => ?_, h⟩
      rcases List.mem_cons.mp hz with e | hz
      · rw [e]; exact hx
      · exact Int.le_trans hx (h1 z hz)
    · rename_i hx
      refine List.pairwise_cons.mpr ⟨fun z hz => ?_, insI_srt x ys h2⟩
      rcases List.mem_cons.mp ((insI_perm x ys).mem_iff.mp hz) with e | hz
      · rw [e]; omega
      · exact h1 z hz
theorem sortI_srt : ∀ l : List Int, (sortI l).Pairwise (· ≤ ·)
  | [] => .nil
  | x :: xs => insI_srt x _ (sortI_srt xs)
theorem srt_uniq : ∀ {l l' : List Int}, l.Perm l' → l.Pairwise (· ≤ ·) → l'.Pairwise (· ≤ ·) → l = l'
  | [], l', p, _, _ => (List.nil_perm.mp p).symm
  | x :: xs, [], p, _, _ => absurd (List.perm_nil.mp p) (List.cons_ne_nil _ _)
  | x :: xs, y :: ys, p, h, h' => by
    obtain ⟨h1, h2⟩ := List.pairwise_cons.mp h
    obtain ⟨h1', h2'⟩ := List.pairwise_cons.mp h'
    have e : x = y := by
      have a1 : x ∈ y :: ys := p.mem_iff.mp List.mem_cons_self
      have a2 : y ∈ x :: xs := p.mem_iff.mpr List.mem_cons_self
      rcases List.mem_cons.mp a1 with e | a1
      · exact e
      · rcases List.mem_cons.mp a2 with e | a2
        · exact e.symm
        · exact Int.le_antisymm (h1 y a2) (h1' x a1)
    subst e
    rw [srt_uniq ((List.perm_cons x).mp p) h2 h2']
def biV : Bi → Value
  | .len => .builtin "len"
  | .abs => .builtin "abs"
  | .min2 => .builtin "min"
  | .max2 => .builtin "max"
  | .minL => .builtin "min"
  | .maxL => .builtin "max"
  | .sum => .builtin "sum"
  | .all => .builtin "all"
  | .any => .builtin "any"
  | .sorted => .builtin "sorted"
  | .list => .type "list"
  | .tuple => .type "tuple"
  | .int => .type "int"
  | .divmod => .builtin "divmod"
def biN : Bi → Str
  | .len => "len"
  | .abs => "abs"
  | .min2 => "min"
  | .max2 => "max"
  | .minL => "min"
  | .maxL => "max"
  | .sum => "sum"
  | .all => "all"
  | .any => "any"
  | .sorted => "sorted"
  | .list => "list"
  | .tuple => "tuple"
  | .int => "int"
  | .divmod => "divmod"
theorem boot_bi : ∀ b : Bi, bootBuiltins (biN b) = some (biV b)
  | .len => by decide +kernel
  | .abs => by decide +kernel
  | .min2 => by decide +kernel
  | .max2 => by decide +kernel
  | .minL => by decide +kernel
  | .maxL => by decide +kernel
  | .sum => by decide +kernel
  | .all => by decide +kernel
  | .any => by decide +kernel
  | .sorted => by decide +kernel
  | .list => by decide +kernel
  | .tuple => by decide +kernel
  | .int => by decide +kernel
  | .divmod => by decide +kernel
def BiR (K : PySem.W.Frag) (cs : List ClsD) (P : Cx → Prop) (b : Bi) : Prop := ∃ r : List V → Hp → VK → Prop, (∀ X, P X → CallR X (biV b) r) ∧
  ∀ sg H0 mu0 C0 hid H mu C vs us u m Q, WOk K cs H mu C hid → Grow hid H0 mu0 C0 H mu C → RelUs K cs (Zof H mu C hid) mu vs us → biU C b us = some u → AW K cs sg H0 mu0 C0 hid Q m u C → r vs H Q
/-- sum(t), t a tuple of ints -/
def rSumT (K : PySem.W.Frag) : List V → Hp → VK → Prop := fun vs H Q => ∃ (a : Addr) (ns : List Int), vs = [V.ref a] ∧ SqT K H a (ns.map V.int) ∧ Q (.int ns.sum) H
theorem cr_sumT {X : Cx} (hc : X.calm = true) : CallR X (.builtin "sum") (rSumT X.K) := by
  intro pins s σ H vs us Q I r h
  obtain ⟨a, ns, rfl, hs, q⟩ := h
  obtain ⟨its, rv, hl, _⟩ := I.tuple hs
  rw [Vals.ref1 r]
  have hi := rv.ints
  obtain ⟨xs, hx⟩ := hi.allInts.items
  have hn : numsOf its.toArray.toList = ns := by rw [show its.toArray.toList = its from rfl, hi.numsOf]
  rw [hx] at hl hn
  rw [nums_intItems] at hn
  refine PySem.W.ktm_sumG (I.ok.hd hc) hl fun h' tk t' hk => ?_
  refine ⟨.int ns.sum, H, I.kept hk, ⟨t', ?_⟩, q⟩
  rw [preSum_eq, List.take_of_length_le (by simp), hn]
theorem bi_len (F : Fam K P) : BiR K cs P .len := by
  refine ⟨_, fun X hX => F.k X hX ▸ call_len_seq (X := X), fun sg H0 mu0 C0 hid H mu C vs us u m Q k gr r e w => ?_⟩
  match us, r, e with
  | [], _, e => first | (cases e; done) | (simp [biU] at e; done)
  | _ :: _ :: _, _, e => first | (cases e; done) | (simp [biU] at e; done)
  | [x], .cons h .nil, e =>
    unfold biU at e
    dsimp only at e
    split at e
    · rename_i l e1
      cases e
      obtain ⟨p, ys, rfl, s1, r1⟩ := rel_tup k h e1
      exact ⟨p, ys, rfl, .inr s1, w.keep k gr rfl (by rw [r1.length]; exact .int _)⟩
    · rename_i l e1
      cases e
      obtain ⟨p, ys, rfl, s1, r1⟩ := rel_lst k h e1
      exact ⟨p, ys, rfl, .inl s1, w.keep k gr rfl (by rw [r1.length]; exact .int _)⟩
    · cases e
theorem bi_abs : BiR K cs P .abs := by
  refine ⟨_, fun X hX => call_abs, fun sg H0 mu0 C0 hid H mu C vs us u m Q k gr r e w => ?_⟩
  match us, r, e with
  | [], _, e => first | (cases e; done) | (simp [biU] at e; done)
  | _ :: _ :: _, _, e => first | (cases e; done) | (simp [biU] at e; done)
  | [x], .cons h .nil, e =>
    cases x with
    | int i =>
      cases e
      exact ⟨_, by rw [h.int_inv], w.keep k gr rfl (.int _)⟩
    | _ => cases e
theorem bi_int : BiR K cs P .int := by
  refine ⟨_, fun X hX => call_int1, fun sg H0 mu0 C0 hid H mu C vs us u m Q k gr r e w => ?_⟩
  match us, r, e with
  | [], _, e => first | (cases e; done) | (simp [biU] at e; done)
  | _ :: _ :: _, _, e => first | (cases e; done) | (simp [biU] at e; done)
  | [x], .cons h .nil, e =>
    cases x with
    | int i =>
      cases e
      exact .inl ⟨_, by rw [h.int_inv], w.keep k gr rfl (.int _)⟩
    | _ => cases e
theorem bi_min2 (F : Fam K P) : BiR K cs P .min2 := by
  refine ⟨_, fun X hX => call_min2 (F.calm X hX), fun sg H0 mu0 C0 hid H mu C vs us u m Q k gr r e w => ?_⟩
  match us, r, e with
  | [], _, e => first | (cases e; done) | (simp [biU] at e; done)
  | [_], _, e => first | (cases e; done) | (simp [biU] at e; done)
  | _ :: _ :: _ :: _, _, e => first | (cases e; done) | (simp [biU] at e; done)
  | [x, y], .cons h (.cons h2 .nil), e =>
    cases x with
    | int i =>
      cases y with
      | int j =>
        cases e
        exact ⟨_, _, by rw [h.int_inv, h2.int_inv], w.keep k gr rfl (.int _)⟩
      | _ => cases e
    | _ => cases e
theorem bi_max2 (F : Fam K P) : BiR K cs P .max2 := by
  refine ⟨_, fun X hX => call_max2 (F.calm X hX), fun sg H0 mu0 C0 hid H mu C vs us u m Q k gr r e w => ?_⟩
  match us, r, e with
  | [], _, e => first | (cases e; done) | (simp [biU] at e; done)
  | [_], _, e => first | (cases e; done) | (simp [biU] at e; done)
  | _ :: _ :: _ :: _, _, e => first | (cases e; done) | (simp [biU] at e; done)
  | [x, y], .cons h (.cons h2 .nil), e =>
    cases x with
    | int i =>
      cases y with
      | int j =>
        cases e
        exact ⟨_, _, by rw [h.int_inv, h2.int_inv], w.keep k gr rfl (.int _)⟩
      | _ => cases e
    | _ => cases e
theorem bi_divmod (F : Fam K P) : BiR K cs P .divmod := by
  refine ⟨_, fun X hX => call_divmodW, fun sg H0 mu0 C0 hid H mu C vs us u m Q k gr r e w => ?_⟩
  match us, r, e with
  | [], _, e => first | (cases e; done) | (simp [biU] at e; done)
  | [_], _, e => first | (cases e; done) | (simp [biU] at e; done)
  | _ :: _ :: _ :: _, _, e => first | (cases e; done) | (simp [biU] at e; done)
  | [x, y], .cons h (.cons h2 .nil), e =>
    cases x with
    | int i =>
      cases y with
      | int j =>
        unfold biU at e
        dsimp only at e
        split at e
        · rename_i hc
          cases e
          refine ⟨i, j, by rw [h.int_inv, h2.int_inv], ⟨hc.1, PyProof.noPylong_of_log2 hc.2⟩, fun p hp => ?_⟩
          obtain ⟨g2, k2, z⟩ := k.newZ (o := .tup [.int (i / j), .int (i % j)]) hp
          exact w.keep k2 (gr.trans g2) rfl (.tup z (.cons (.int _) (.cons (.int _) .nil)))
        · cases e
      | _ => cases e
    | _ => cases e
/-- a list of ints behind a list -/
theorem ints_lst {x : U} (k : WOk K cs H mu C hid) (h : RelU K cs (Zof H mu C hid) mu v x) {l : List U} (e : rd C x = .lst l) {ns : List Int} (e2 : intsU l = some ns) : ∃ p, v = .ref p ∧ SqL K H p (ns.map V.int) := by
  obtain ⟨p, ys, rfl, s1, r1⟩ := rel_lst k h e
  rw [ints_val r1 e2] at s1
  exact ⟨p, rfl, s1⟩
theorem ints_tup {x : U} (k : WOk K cs H mu C hid) (h : RelU K cs (Zof H mu C hid) mu v x) {l : List U} (e : rd C x = .tup l) {ns : List Int} (e2 : intsU l = some ns) : ∃ p, v = .ref p ∧ SqT K H p (ns.map V.int) := by
  obtain ⟨p, ys, rfl, s1, r1⟩ := rel_tup k h e
  rw [ints_val r1 e2] at s1
  exact ⟨p, rfl, s1⟩
theorem bools_lst {x : U} (k : WOk K cs H mu C hid) (h : RelU K cs (Zof H mu C hid) mu v x) {l : List U} (e : rd C x = .lst l) {ns : List Bool} (e2 : boolsU l = some ns) : ∃ p, v = .ref p ∧ SqL K H p (ns.map V.bl) := by
  obtain ⟨p, ys, rfl, s1, r1⟩ := rel_lst k h e
  rw [bools_val r1 e2] at s1
  exact ⟨p, rfl, s1⟩
theorem bi_minL (F : Fam K P) : BiR K cs P .minL := by
  refine ⟨_, fun X hX => F.k X hX ▸ cr_min (F.calm X hX), fun sg H0 mu0 C0 hid H mu C vs us u m Q k gr r e w => ?_⟩
  match us, r, e with
  | [], _, e => first | (cases e; done) | (simp [biU] at e; done)
  | _ :: _ :: _, _, e => first | (cases e; done) | (simp [biU] at e; done)
  | [x], .cons h .nil, e =>
    unfold biU at e
    dsimp only at e
    split at e
    · rename_i l e1
      cases e2 : intsU l with
      | none => rw [e2] at e; cases e
      | some ns =>
        rw [e2] at e
        cases e3 : minI ns with
        | none => simp [e3] at e
        | some k' =>
          have e : some (U.int k') = some u := by simpa [e3] using e
          cases e
          obtain ⟨p, rfl, s1⟩ := ints_lst k h e1 e2
          obtain ⟨h1, h2, h3⟩ := minI_spec e3
          refine ⟨p, ns, rfl, s1, h1, fun m' q1 q2 => ?_⟩
          rw [Int.le_antisymm (q2 _ h2) (h3 _ q1)]
          exact w.keep k gr rfl (.int _)
    · cases e
theorem bi_maxL (F : Fam K P) : BiR K cs P .maxL := by
  refine ⟨_, fun X hX => F.k X hX ▸ cr_max (F.calm X hX), fun sg H0 mu0 C0 hid H mu C vs us u m Q k gr r e w => ?_⟩
  match us, r, e with
  | [], _, e => first | (cases e; done) | (simp [biU] at e; done)
  | _ :: _ :: _, _, e => first | (cases e; done) | (simp [biU] at e; done)
  | [x], .cons h .nil, e =>
    unfold biU at e
    dsimp only at e
    split at e
    · rename_i l e1
      cases e2 : intsU l with
      | none => rw [e2] at e; cases e
      | some ns =>
        rw [e2] at e
        cases e3 : maxI ns with
        | none => simp [e3] at e
        | some k' =>
          have e : some (U.int k') = some u := by simpa [e3] using e
          cases e
          obtain ⟨p, rfl, s1⟩ := ints_lst k h e1 e2
          obtain ⟨h1, h2, h3⟩ := maxI_spec e3
          refine ⟨p, ns, rfl, s1, h1, fun m' q1 q2 => ?_⟩
          rw [Int.le_antisymm (h3 _ q1) (q2 _ h2)]
          exact w.keep k gr rfl (.int _)
    · cases e
theorem bi_sum (F : Fam K P) : BiR K cs P .sum := by
  refine ⟨_, fun X hX => (F.k X hX ▸ cr_sum (F.calm X hX)).or (F.k X hX ▸ cr_sumT (F.calm X hX)), fun sg H0 mu0 C0 hid H mu C vs us u m Q k gr r e w => ?_⟩
  match us, r, e with
  | [], _, e => first | (cases e; done) | (simp [biU] at e; done)
  | _ :: _ :: _, _, e => first | (cases e; done) | (simp [biU] at e; done)
  | [x], .cons h .nil, e =>
    unfold biU at e
    dsimp only at e
    split at e
    · rename_i l e1
      cases e2 : intsU l with
      | none => rw [e2] at e; cases e
      | some ns =>
        rw [e2] at e
        cases e
        obtain ⟨p, rfl, s1⟩ := ints_lst k h e1 e2
        exact .inl ⟨p, ns, rfl, s1, w.keep k gr rfl (.int _)⟩
    · rename_i l e1
      cases e2 : intsU l with
      | none => rw [e2] at e; cases e
      | some ns =>
        rw [e2] at e
        cases e
        obtain ⟨p, rfl, s1⟩ := ints_tup k h e1 e2
        exact .inr ⟨p, ns, rfl, s1, w.keep k gr rfl (.int _)⟩
    · cases e
theorem bi_all (F : Fam K P) : BiR K cs P .all := by
  refine ⟨_, fun X hX => F.k X hX ▸ cr_all (F.calm X hX), fun sg H0 mu0 C0 hid H mu C vs us u m Q k gr r e w => ?_⟩
  match us, r, e with
  | [], _, e => first | (cases e; done) | (simp [biU] at e; done)
  | _ :: _ :: _, _, e => first | (cases e; done) | (simp [biU] at e; done)
  | [x], .cons h .nil, e =>
    unfold biU at e
    dsimp only at e
    split at e
    · rename_i l e1
      cases e2 : boolsU l with
      | none => rw [e2] at e; cases e
      | some ns =>
        rw [e2] at e
        cases e
        obtain ⟨p, rfl, s1⟩ := bools_lst k h e1 e2
        exact ⟨p, ns, rfl, s1, w.keep k gr rfl (.bl _)⟩
    · cases e
theorem bi_any (F : Fam K P) : BiR K cs P .any := by
  refine ⟨_, fun X hX => F.k X hX ▸ cr_any (F.calm X hX), fun sg H0 mu0 C0 hid H mu C vs us u m Q k gr r e w => ?_⟩
  match us, r, e with
  | [], _, e => first | (cases e; done) | (simp [biU] at e; done)
  | _ :: _ :: _, _, e => first | (cases e; done) | (simp [biU] at e; done)
  | [x], .cons h .nil, e =>
    unfold biU at e
    dsimp only at e
    split at e
    · rename_i l e1
      cases e2 : boolsU l with
      | none => rw [e2] at e; cases e
      | some ns =>
        rw [e2] at e
        cases e
        obtain ⟨p, rfl, s1⟩ := bools_lst k h e1 e2
        exact ⟨p, ns, rfl, s1, w.keep k gr rfl (.bl _)⟩
    · cases e
theorem bi_sorted (F : Fam K P) : BiR K cs P .sorted := by
  refine ⟨_, fun X hX => F.k X hX ▸ cr_sortedI (X := X), fun sg H0 mu0 C0 hid H mu C vs us u m Q k gr r e w => ?_⟩
  match us, r, e with
  | [], _, e => first | (cases e; done) | (simp [biU] at e; done)
  | _ :: _ :: _, _, e => first | (cases e; done) | (simp [biU] at e; done)
  | [x], .cons h .nil, e =>
    unfold biU at e
    dsimp only at e
    split at e
    · rename_i l e1
      cases e2 : intsU l with
      | none => rw [e2] at e; cases e
      | some ns =>
        rw [e2] at e
        cases e
        obtain ⟨p, rfl, s1⟩ := ints_lst k h e1 e2
        refine ⟨p, ns, rfl, s1, fun ns' p' q1 q2 hp => ?_⟩
        rw [srt_uniq (q1.trans (sortI_perm ns).symm) q2 (sortI_srt ns)]
        exact alloc_lst k gr hp (rel_ints _) w
    · cases e
theorem bi_list (F : Fam K P) : BiR K cs P .list := by
  refine ⟨_, fun X hX => F.k X hX ▸ call_list_of (X := X), fun sg H0 mu0 C0 hid H mu C vs us u m Q k gr r e w => ?_⟩
  match us, r, e with
  | [], _, e => first | (cases e; done) | (simp [biU] at e; done)
  | _ :: _ :: _, _, e => first | (cases e; done) | (simp [biU] at e; done)
  | [x], .cons h .nil, e =>
    unfold biU at e
    dsimp only at e
    split at e
    · rename_i l e1
      cases e
      obtain ⟨p, ys, rfl, s1, r1⟩ := rel_lst k h e1
      exact ⟨p, ys, rfl, .inl s1, fun p' hp => alloc_lst k gr hp r1 w⟩
    · rename_i l e1
      cases e
      obtain ⟨p, ys, rfl, s1, r1⟩ := rel_tup k h e1
      exact ⟨p, ys, rfl, .inr s1, fun p' hp => alloc_lst k gr hp r1 w⟩
    · cases e
theorem rd_tup_sc {x : U} {l : List U} (h : RelU K cs (Zof H mu C hid) mu v x) (k : WOk K cs H mu C hid) (e : rd C x = .tup l) : isSc x = true := by
  cases x with
  | lst _ => cases e
  | dic _ _ => cases e
  | _ => rfl
theorem bi_tuple (F : Fam K P) : BiR K cs P .tuple := by
  refine ⟨_, fun X hX => F.k X hX ▸ call_tuple_of (X := X), fun sg H0 mu0 C0 hid H mu C vs us u m Q k gr r e w => ?_⟩
  match us, r, e with
  | [], _, e => first | (cases e; done) | (simp [biU] at e; done)
  | _ :: _ :: _, _, e => first | (cases e; done) | (simp [biU] at e; done)
  | [x], .cons h .nil, e =>
    unfold biU at e
    dsimp only at e
    split at e
    · rename_i l e1
      cases e
      obtain ⟨p, ys, rfl, s1, r1⟩ := rel_lst k h e1
      refine ⟨p, ys, rfl, .inl ⟨s1, fun p' hp => ?_⟩⟩
      obtain ⟨g2, k2, z⟩ := k.newZ (o := .tup ys) hp
      exact w.keep k2 (gr.trans g2) rfl (.tup z (r1.up g2.up))
    · rename_i l e1
      cases e
      obtain ⟨p, ys, rfl, s1, r1⟩ := rel_tup k h e1
      exact ⟨p, ys, rfl, .inr ⟨s1, w.keep k gr (rd_tup_sc h k e1) h⟩⟩
    · cases e
theorem bi_rule (F : Fam K P) : ∀ b : Bi, BiR K cs P b
  | .len => bi_len F
  | .abs => bi_abs
  | .min2 => bi_min2 F
  | .max2 => bi_max2 F
  | .minL => bi_minL F
  | .maxL => bi_maxL F
  | .sum => bi_sum F
  | .all => bi_all F
  | .any => bi_any F
  | .sorted => bi_sorted F
  | .list => bi_list F
  | .tuple => bi_tuple F
  | .int => bi_int
  | .divmod => bi_divmod F
def plainXs : List Expr → Bool
  | [] => true
  | x :: xs => plainX x && plainXs xs
theorem starEs {env : Env} {pos : Pos} : ∀ {es : List Expr}, plainXs es = true → (backTo pos (starEach es env)).any (·.1) = false
  | [], _ => by rw [starEach]; rfl
  | e :: es, h => by
    rw [plainXs, Bool.and_eq_true] at h
    rw [starE h.1]
    have := starEs (env := env) (pos := pos) h.2
    simpa [backTo] using this
theorem snd_bi (F : Fam K P) {b : Bi} {p : Pos} (hg : ∀ X, P X → L2.Gl X (biN b)) (hm : ∀ X, P X → X.mg (biN b) = none) (hx : plainX a = true) (hs : plainXs es = true) (ha : SndA K cs P (a :: es) (evEs g xs)) :
    SndE K cs P (.Call (.Name (biN b) p) (a :: es) [] pos) (evE g (.bi b m xs)) := by
  obtain ⟨t, pr, s⟩ := ha
  obtain ⟨r, hr, sem⟩ := bi_rule (cs := cs) F b
  have hn : biN b ≠ "__name__" := by cases b <;> decide
  have hdb : (biN b == ("__debug__" : Str)) = false := by cases b <;> decide
  refine ⟨tCB r t, fun X hX => ?_, fun sg H rr mu C hid st Q w => ?_⟩
  · have hb := boot_bi b
    have hr' := hr X hX
    generalize biV b = bv at hb hr'
    cases b <;> (first | exact pe_callB (hr X hX) (hg X hX) (hm X hX) (boot_bi _) (pr X hX) hn hdb (starE hx) (starEs hs) | exact pe_callTy (hr X hX) (hg X hX) (hm X hX) (boot_bi _) (pr X hX) hn hdb (starE hx) (starEs hs))
  · simp only [evE] at w
    refine s sg H rr mu C hid st _ (w.bind.mono (fun _ _ _ e => e) fun us C1 w1 vs H1 mu1 k1 g1 e1 => ?_)
    obtain ⟨u, e, w2⟩ := w1.bind.lift
    exact sem sg H mu C hid H1 mu1 C1 vs us u m Q k1 g1 e1 e w2
end
end Py
namespace Py
open PySem Spec PyProof.Rows L2
section
open HT
variable {prog : Program} {w : World} {A : Around} {E : Value → Shared → Prop} {s : Shared}
theorem adjust_rev (n : Nat) : Builtin.Slice.sliceAdjust none none (-1) (n : Int) = ((n : Int) - 1, -1) := rfl
theorem places_rev (n : Nat) : Builtin.Slice.slicePlaces ((n : Int) - 1) (-1) (-1) = n := by
  unfold Builtin.Slice.slicePlaces
  rw [if_neg (by decide)]
  by_cases h : (n : Int) - 1 > -1
  · rw [if_pos h]
    have e : ((n : Int) - 1 - -1 - 1) / (- -1) + 1 = (n : Int) := by
      rw [show (- -1 : Int) = 1 by decide, Int.ediv_one]
      omega
    rw [e]
    omega
  · rw [if_neg h]
    omega
theorem sliceApplied_rev {sl : Addr} {vl vu vs : Value} {n : Nat} {Q : Int × Int × Nat → Shared → Prop} (hs : s.heap.IsSliceOf sl vl vu vs) (pl : IsPart vl none) (pu : IsPart vu none) (ps : IsPart vs (some (-1)))
    (h : Q ((n : Int) - 1, -1, n) s) : wpAny (model prog w) A (Builtin.Slice.sliceApplied (.ref sl) (pure (n : Int))) Q E s := by
  obtain ⟨os, hos, hcs, hds⟩ := id hs
  unfold Builtin.Slice.sliceApplied Builtin.Slice.sliceFields
  refine wpAny_bind (wpAny_bind (wpAny_field hos hds (x := vl) rfl (wpAny_bind (wpAny_field hos hds (x := vu) rfl (wpAny_bind (wpAny_field hos hds (x := vs) rfl (wpAny_pure ?_)))))))
  refine wpAny_bind (slicePart_ ps ?_)
  show wpAny _ _ (if ((-1 : Int) == 0) = true then _ else _) _ _ s
  rw [if_neg (by decide)]
  refine wpAny_bind (slicePart_ pl (wpAny_bind (slicePart_ pu (wpAny_bind (wpAny_pure ?_)))))
  show wpAny _ _ (match Builtin.Slice.sliceAdjust none none (-1) (n : Int) with | (lo, hi) => pure (lo, (-1 : Int), Builtin.Slice.slicePlaces lo hi (-1))) _ _ s
  rw [adjust_rev]
  show wpAny _ _ (pure ((n : Int) - 1, (-1 : Int), Builtin.Slice.slicePlaces ((n : Int) - 1) (-1) (-1))) _ _ s
  rw [places_rev]
  exact wpAny_pure h
theorem pick_rev (xs : Array Value) : ((List.range xs.size).filterMap fun (m : Nat) => xs[((xs.size : Int) - 1 + (m : Int) * (-1)).toNat]?) = xs.toList.reverse := by
  have e : (List.range xs.size).filterMap (fun (m : Nat) => xs[((xs.size : Int) - 1 + (m : Int) * (-1)).toNat]?) = ((List.range xs.size).map fun k => xs.size - 1 - k).filterMap (xs[·]?) := by
    rw [List.filterMap_map]
    have go : ∀ l : List Nat, (∀ m ∈ l, m < xs.size) → l.filterMap (fun (m : Nat) => xs[((xs.size : Int) - 1 + (m : Int) * (-1)).toNat]?) = l.filterMap ((xs[·]?) ∘ fun k => xs.size - 1 - k) := by
      intro l
      induction l with
      | nil => intro _; rfl
      | cons m l ih =>
        intro hl
        have hm := hl m List.mem_cons_self
        have em : ((xs.size : Int) - 1 + (m : Int) * (-1)).toNat = xs.size - 1 - m := by omega
        rw [List.filterMap_cons, List.filterMap_cons, ih fun m' h' => hl m' (List.mem_cons_of_mem _ h')]
        simp only [em, Function.comp]
    exact go _ fun m hm => List.mem_range.mp hm
  rw [e, PySem.W.krv_range, List.filterMap_reverse, PySem.W.krv_all]
theorem getItem_tuple_rev {t sl : Addr} {items : Array Value} {vl vu vs : Value} {Q : Value → Shared → Prop} (ht : IsTup s.heap t items) (hs : s.heap.IsSliceOf sl vl vu vs) (pl : IsPart vl none) (pu : IsPart vu none) (ps : IsPart vs (some (-1)))
    (h : Q (.ref s.heap.objs.size) { s with heap := s.heap.push { cls := .type "tuple", data := .seq items.toList.reverse.toArray } })
    (hsz : items.size ≤ sizeLine) : wpAny (model prog w) A (getItem (.ref t) (.ref sl)) Q E s := by
  have htake : sizeOk (.seq items.toList.reverse.toArray) := by
    show items.toList.reverse.toArray.size ≤ sizeLine
    rw [List.size_toArray, List.length_reverse, Array.length_toList]
    exact hsz
  obtain ⟨os, hos, hcs, hds⟩ := id hs
  have hTs : s.TypeIs (.ref sl) "slice" := ⟨os, hos, hcs⟩
  unfold getItem
  try with_reducible refine wpAny_holding ?_
  first | refine wpAny_bind (wpAny_pure ?_) | skip
  refine wpAny_bind (wpAny_sequenceKey ht.typeIs (by decide) ?_)
  refine wpAny_bind (wpAny_callSpecial?_slot (name := Str.ofString "__getitem__") ht.typeIs PyProof.Rows.slot_tuple_getitem
    (wpAny_call_entry PyProof.Rows.slot_tuple_getitem ht.typeIs entry_tuple_getitem ?_ (args_tuple_getitem _ _)))
  show wpAny _ _ (Builtin.Tuple.tupleItemsOf (.ref t) >>= _) _ _ s
  refine wpAny_bind (tupleItemsOf_ ht ?_)
  refine wpAny_bind (wpAny_typeOf hTs ?_)
  rw [if_pos (by decide)]
  refine wpAny_bind (sliceApplied_rev hs pl pu ps ?_)
  have hno : ¬ ((((items.size : Int) - 1 == 0 && (-1 : Int) == 1 && items.size == items.size)) = true) := by
    intro q
    rw [Bool.and_eq_true, Bool.and_eq_true] at q
    exact absurd (eq_of_beq q.1.2) (by decide)
  show wpAny _ _ (if (((items.size : Int) - 1 == 0 && (-1 : Int) == 1 && items.size == items.size)) = true then _ else _) _ _ s
  rw [if_neg hno, pick_rev]
  first
    | exact wpAny_bind (m := Builtin.Tuple.tupleExact _) (wpAny_newObj_type (wpAny_pure ⟨_, rfl, wpAny_pure h⟩) htake)
    | exact wpAny_bind (m := Builtin.Tuple.tupleExact _) (wpAny_newObj_type (wpAny_bind (wpAny_pure (wpAny_pure ⟨_, rfl, wpAny_pure h⟩))) htake)
    | exact wpAny_bind (wpAny_bind (m := Builtin.Tuple.tupleExact _) (wpAny_newObj_type (wpAny_pure (wpAny_pure ⟨_, rfl, wpAny_pure h⟩)) htake))
    | exact wpAny_bind (wpAny_bind (m := Builtin.Tuple.tupleExact _) (wpAny_newObj_type (wpAny_pure ⟨_, rfl, wpAny_pure h⟩) htake))
end
section
variable {X : Cx}
/-- x[::-1], a list or a tuple -/
def tRevX (K : PySem.W.Frag) (te : TE) : TE := fun σ H Q => te σ H fun x H1 => ∃ a xs, x = .ref a ∧ ((SqL K H1 a xs ∧ ∀ p, H1 p = none → Q (.ref p) (upd H1 p (.lst xs.reverse))) ∨ (SqT K H1 a xs ∧ ∀ p, H1 p = none → Q (.ref p) (upd H1 p (.tup xs.reverse))))
theorem pe_revX {e : Expr} {te : TE} {k : Nat} {p1 p2 p3 pos : Pos} (he : PE X e te) : PE X (.Subscript e (.Slice none none (some (.UnaryOp .USub (.Constant (.int 1) k p1) p2)) p3) pos) (tRevX X.K te) := by
  refine ⟨fun pins s σ H Q I h => ?_⟩
  refine Subscript_ (thn (he.run pins s σ H _ I h) fun v s1 ⟨x, H1, I1, r1, q1⟩ => ?_)
  obtain ⟨a, xs, ex, hx⟩ := q1
  subst ex
  cases r1
  have hst : PO X (some (.UnaryOp .USub (.Constant (.int 1) k p1) p2)) (tPart (tUn (rU fun i => .int (-i)) (tC (.int 1)))) := po_some (pe_un un_neg pe_int)
  refine wpAny_Slice (thn (po_none.run pins s1 σ H1 (fun o H2 => o = none ∧ H2 = H1) I1 ⟨rfl, rfl⟩) fun vl s2 ⟨l, H2, I2, pl, el, e2⟩ => ?_)
  subst el e2
  refine thn (po_none.run pins s2 σ H2 (fun o H3 => o = none ∧ H3 = H2) I2 ⟨rfl, rfl⟩) fun vu s3 ⟨u, H3, I3, pu, eu, e3⟩ => ?_
  subst eu e3
  refine thn (hst.run pins s3 σ H3 (fun o H4 => o = some (-1) ∧ H4 = H3) I3 ⟨1, rfl, -1, rfl, rfl, rfl⟩) fun vs s4 ⟨o, H4, I4, ps, eo, e4⟩ => ?_
  subst eo e4
  have I5 : Inv X pins σ H4 { s4 with heap := s4.heap.push { cls := .type "slice", data := .fields #[vl, vu, vs] } } := I4.kept (t' := s4.toks) fun b ob q => Heap.get?_push_of_some _ q
  show wpAny (model X.prog X.w) X.A (subscriptTail e (.Slice none none (some (.UnaryOp .USub (.Constant (.int 1) k p1) p2)) p3) (.ref a) (.ref s4.heap.objs.size)) (EP X pins σ Q) X.xe { s4 with heap := s4.heap.push { cls := .type "slice", data := .fields #[vl, vu, vs] } }
  rcases hx with ⟨hx, q⟩ | ⟨hx, q⟩
  · obtain ⟨its, r, ht, hz⟩ := I5.list hx
    have hlen := r.length
    refine tail_any (ops := [.ref a, .ref s4.heap.objs.size]) ht.isList.typeIs (PySem.slot_list_getitem.lookup) ?_ (by with_unfolding_all rfl)
    refine wpAny_getItem_list_slice ht.isList (Heap.IsSliceOf.new _ vl vu vs) pl pu ps (by decide) ?_ (by rw [List.size_toArray]; omega)
    rw [PySem.W.krv_pick]
    refine ⟨.ref _, _, I5.laid (t' := s4.toks) (o := .lst xs.reverse) (fun b ob q => Heap.get?_push_of_some _ q) (Nat.le_refl _) ?_, rfl, q _ (I5.hok.fresh (Nat.le_refl _))⟩
    exact ⟨by rw [List.length_reverse]; exact hz, _, 0, r.reverse, Heap.get?_push_size _ rfl⟩
  · obtain ⟨its, r, ht, hz⟩ := I5.tuple hx
    have hlen := r.length
    refine tail_any (ops := [.ref a, .ref s4.heap.objs.size]) ht.typeIs (PyProof.Rows.slot_tuple_getitem.lookup) ?_ (by with_unfolding_all rfl)
    refine getItem_tuple_rev ht (Heap.IsSliceOf.new _ vl vu vs) pl pu ps ?_ (by rw [List.size_toArray]; omega)
    refine ⟨.ref _, _, I5.laid (t' := s4.toks) (o := .tup xs.reverse) (fun b ob q => Heap.get?_push_of_some _ q) (Nat.le_refl _) ?_, rfl, q _ (I5.hok.fresh (Nat.le_refl _))⟩
    exact ⟨by rw [List.length_reverse]; exact hz, _, r.reverse, IsTup.new _ _⟩
end
section
variable {K : PySem.W.Frag} {P : Cx → Prop} {cs : List ClsD} {a b c : Expr} {pos : Pos} {ea eb ec : E} {g : Gm} {es : List Expr} {xs : Es} {sg : L2.St} {H0 H : Hp} {mu0 mu : List Addr} {C0 C : List Cl} {hid : List Addr} {Q : VK} {m : Bool} {u : U} {v : V}
theorem snd_rev (F : Fam K P) {k : Nat} {p1 p2 p3 : Pos} (ha : SndE K cs P a (evE g ea)) : SndE K cs P (.Subscript a (.Slice none none (some (.UnaryOp .USub (.Constant (.int 1) k p1) p2)) p3) pos) (evE g (.rev ea)) := by
  obtain ⟨t, p, s⟩ := ha
  refine ⟨_, fun X hX => F.k X hX ▸ pe_revX (p X hX), fun sg H r mu C hid st Q w => ?_⟩
  simp only [evE] at w
  refine s sg H r mu C hid st _ (w.bind.mono (fun _ _ _ e => e) fun u C1 w1 v H1 mu1 k1 g1 e1 => ?_)
  split at w1
  · rename_i l e2
    obtain ⟨p, ys, rfl, s1, r1⟩ := rel_lst k1 e1 e2
    refine ⟨p, ys, rfl, .inl ⟨s1, fun q hq => ?_⟩⟩
    obtain ⟨g2, k2, z⟩ := k1.newZ (o := .lst ys.reverse) hq
    exact w1 _ _ _ k2 (g1.trans g2) (.lst z (r1.rev.up g2.up))
  · rename_i l e2
    obtain ⟨p, ys, rfl, s1, r1⟩ := rel_tup k1 e1 e2
    refine ⟨p, ys, rfl, .inr ⟨s1, fun q hq => ?_⟩⟩
    obtain ⟨g2, k2, z⟩ := k1.newZ (o := .tup ys.reverse) hq
    exact w1 _ _ _ k2 (g1.trans g2) (.tup z (r1.rev.up g2.up))
  · exact w1.elim
/-! ### isinstance -/
def tyN : String → Str := fun t => Str.ofString t
def tyAll : List String := ["int", "bool", "str", "list", "tuple", "dict"]
def tyOfs : List String := ["NoneType", "bool", "int", "str", "tuple", "list", "dict"]
theorem boot_ty : ∀ t ∈ tyAll, bootBuiltins (tyN t) = some (.type t) := by decide +kernel
theorem ty_ok : ∀ t ∈ tyAll, tyN t ≠ "__name__" ∧ (tyN t == ("__debug__" : Str)) = false := by decide +kernel
theorem kit_all : ∀ n ∈ tyOfs, ∀ t ∈ tyAll, kitB n t = some (n == t || (n == "bool" && t == "int")) := by decide +kernel
theorem tyOf_in {u : U} {n : String} (e : tyOf u = some n) : n ∈ tyOfs := by
  unfold tyOf at e
  split at e <;> first | (cases e; done) | (cases e; decide)
theorem at_dK {p : Addr} {cc : Cl} {kvs : List (Key × V)} (h : At H p (.dK kvs) cc) : TyX K H (.ref p) (.type "dict") := by
  rcases h.rd with z | ⟨ob, z⟩
  · exact .base (.dK z)
  · exact .fDict z
theorem tyX_of {n : String} (k : WOk K cs H mu C hid) (h : RelU K cs (Zof H mu C hid) mu v u) (e : tyOf (rd C u) = some n) : TyX K H v (.type n) := by
  cases h with
  | non => cases e; exact .base .non
  | bl b => cases e; exact .base (.bl b)
  | int b => cases e; exact .base (.int b)
  | str b => cases e; exact .base (.str b)
  | tup z r => cases e; exact .base (.tup (zof_le _ _ z))
  | ktup z r =>
    cases e
    obtain ⟨o, its, n', h1, h2, _⟩ := z
    exact .kTuple h1 h2
  | lst z r => cases e; exact .base (.lst (zof_le _ _ z))
  | klst z r =>
    cases e
    rcases z with z | ⟨o, its, n', h1, h2, _⟩
    · rcases zof_rd z with z | ⟨ob, z⟩
      · exact .base (.lst z)
      · exact .base (.frz z)
    · exact .kList h1 h2
  | dicK z r =>
    cases e
    rcases zof_rd z with z | ⟨ob, z⟩
    · exact .base (.dK z)
    · exact .fDict z
  | dicT z r => cases e
  | row _ z _ r => cases e
  | @cel kk p hk =>
    cases ec : C[kk]? with
    | none =>
      have : rd C (.cel kk) = .cel kk := by show cell C kk = _; unfold cell; rw [ec]
      rw [this] at e
      cases e
    | some cc =>
      have e1 : rd C (.cel kk) = ofCt cc.ct := by show cell C kk = _; unfold cell; rw [ec]
      rw [e1] at e
      obtain ⟨p', o, ep, at', rc⟩ := k.ct kk cc ec
      rw [hk] at ep
      cases ep
      obtain ⟨lv, ct⟩ := cc
      cases rc with
      | lst r =>
        cases e
        rcases at' with z | ⟨_, z, _⟩
        · exact .base (.lst z)
        · cases z
      | dicK r => cases e; exact at_dK at'
      | dicT r => cases e
      | ins _ _ r => cases e
/-- the second argument: a name, or a tuple of names -/
def tyArg : List String → List Expr → Bool
  | [], [] => true
  | t :: ts, .Name x _ :: es => decide (x = tyN t) && tyAll.contains t && tyArg ts es
  | _, _ => false
theorem tyArgs {P : Cx → Prop} : ∀ {ts : List String} {es : List Expr}, tyArg ts es = true → (∀ t ∈ ts, ∀ X, P X → L2.Gl X (tyN t) ∧ X.mg (tyN t) = none) → plainXs es = true ∧ (∀ t ∈ ts, t ∈ tyAll) ∧ ∃ ta : TA, (∀ X, P X → PA X es ta) ∧ ∀ σ H Q, Q (ts.map V.ty) H → ta σ H Q
  | [], [], _, _ => ⟨rfl, (fun _ h => by cases h), tNil, fun _ _ => pa_nil, fun _ _ _ q => q⟩
  | t :: ts, .Name x p :: es, h, hX => by
    rw [tyArg, Bool.and_eq_true, Bool.and_eq_true] at h
    obtain ⟨⟨h1, h2⟩, h3⟩ := h
    have h1 : x = tyN t := of_decide_eq_true h1
    have h2 : t ∈ tyAll := List.contains_iff_mem.mp h2
    obtain ⟨a1, a2, ta, a3, a4⟩ := tyArgs (P := P) h3 fun t' h' => hX t' (List.mem_cons_of_mem _ h')
    subst h1
    refine ⟨by rw [plainXs, a1]; rfl, fun t' h' => ?_, tCons (tC (.ty t)) ta, fun X hP => pa_cons (pe_bltn (hX t List.mem_cons_self X hP).1 (hX t List.mem_cons_self X hP).2 (boot_ty t h2) (show RelV (.ty t) (.type t) from rfl) (ty_ok t h2).1 (ty_ok t h2).2) (a3 X hP) (starE rfl), fun σ H Q q => ?_⟩
    · rcases List.mem_cons.mp h' with e | h'
      · rw [e]; exact h2
      · exact a2 t' h'
    · exact a4 σ H _ q
theorem kit_any {n : String} (hn : n ∈ tyOfs) : ∀ {ts : List String}, (∀ t ∈ ts, t ∈ tyAll) → PySem.W.kitAny K (.type n) (ts.map Value.type) = some (ts.any fun t => n == t || (n == "bool" && t == "int"))
  | [], _ => kitAny_nil
  | t :: ts, h => by
    refine kitAny_cons (kit_ty (kit_all n hn t (h t List.mem_cons_self))) (fun e => ?_) fun e => ?_
    · rw [List.any_cons, e, Bool.false_or]
      exact kit_any hn fun t' h' => h t' (List.mem_cons_of_mem _ h')
    · rw [List.any_cons, e, Bool.true_or]
theorem paired_ty : ∀ ts : List String, Paired ClsV (ts.map V.ty) (ts.map Value.type)
  | [] => .nil
  | t :: ts => .cons (.ty t) (paired_ty ts)
theorem snd_isi1 {p px : Pos} {x : Str} {t : String} (hg : ∀ X, P X → L2.Gl X "isinstance") (hm : ∀ X, P X → X.mg "isinstance" = none) (hx : plainX a = true) (ha : SndE K cs P a (evE g ea)) (F : Fam K P) (ht : tyArg [t] [.Name x px] = true) (hX : ∀ t' ∈ [t], ∀ X, P X → L2.Gl X (tyN t') ∧ X.mg (tyN t') = none) :
    SndE K cs P (.Call (.Name "isinstance" p) [a, .Name x px] [] pos) (evE g (.isi ea [t])) := by
  obtain ⟨te, pr, s⟩ := ha
  obtain ⟨a1, a2, ta, a3, a4⟩ := tyArgs (P := P) ht hX
  refine ⟨_, fun X hP => F.k X hP ▸ pe_callB call_isi (hg X hP) (hm X hP) (by decide +kernel) (pa_cons (pr X hP) (a3 X hP) (starE hx)) (by decide) (by decide) (starE hx) (starEs a1), fun sg H r mu C hid st Q w => ?_⟩
  simp only [evE] at w
  refine s sg H r mu C hid st _ (w.bind.mono (fun _ _ _ e => e) fun u C1 w1 v H1 mu1 k1 g1 e1 => ?_)
  obtain ⟨w', e2, w2⟩ := w1.lift
  refine a4 _ _ _ ?_
  unfold isiU at e2
  cases e3 : tyOf (rd C1 u) with
  | none => rw [e3] at e2; cases e2
  | some n =>
    rw [e3] at e2
    cases e2
    refine ⟨v, .ty t, .type n, .type t, _, rfl, .ty t, tyX_of k1 e1 e3, kit_ty (kit_all n (tyOf_in e3) t (a2 t List.mem_cons_self)), ?_⟩
    refine w2 _ _ _ k1 g1 ?_
    simp only [List.any_cons, List.any_nil, Bool.or_false]
    exact .bl _
theorem snd_isiT {p pt : Pos} {k : Nat} {es : List Expr} {ts : List String} (hg : ∀ X, P X → L2.Gl X "isinstance") (hm : ∀ X, P X → X.mg "isinstance" = none) (hx : plainX a = true) (ha : SndE K cs P a (evE g ea)) (F : Fam K P) (ht : tyArg ts es = true) (hX : ∀ t' ∈ ts, ∀ X, P X → L2.Gl X (tyN t') ∧ X.mg (tyN t') = none) (hl : ts.length ≤ 100) :
    SndE K cs P (.Call (.Name "isinstance" p) [a, .Tuple es k pt] [] pos) (evE g (.isi ea ts)) := by
  obtain ⟨te, pr, s⟩ := ha
  obtain ⟨a1, a2, ta, a3, a4⟩ := tyArgs (P := P) ht hX
  refine ⟨_, fun X hP => F.k X hP ▸ pe_callB call_isiT (hg X hP) (hm X hP) (by decide +kernel) (pa_cons (pr X hP) (pa_cons (pe_tup (a3 X hP)) pa_nil (starE rfl)) (starE hx)) (by decide) (by decide) (starE hx) (starEs rfl), fun sg H r mu C hid st Q w => ?_⟩
  simp only [evE] at w
  refine s sg H r mu C hid st _ (w.bind.mono (fun _ _ _ e => e) fun u C1 w1 v H1 mu1 k1 g1 e1 => ?_)
  obtain ⟨w', e2, w2⟩ := w1.lift
  refine a4 _ _ _ ⟨by rw [List.length_map]; exact big_line (Nat.le_trans hl (by decide)), fun q hq => ?_⟩
  unfold isiU at e2
  cases e3 : tyOf (rd C1 u) with
  | none => rw [e3] at e2; cases e2
  | some n =>
    rw [e3] at e2
    cases e2
    obtain ⟨g2, k2, z⟩ := k1.newZ (o := .tup (ts.map V.ty)) hq
    exact ⟨v, q, ts.map V.ty, .type n, ts.map Value.type, _, rfl, upd_same, paired_ty ts, tyX_of k2 (e1.up g2.up) e3, kit_any (tyOf_in e3) a2, w2 _ _ _ k2 (g1.trans g2) (.bl _)⟩
end
end Py
namespace Py
open PySem Spec PyProof.Rows L2
section
variable {K : PySem.W.Frag} {P : Cx → Prop} {cs : List ClsD} {a b c : Expr} {pos : Pos} {ea eb ec : E} {g : Gm} {es : List Expr} {xs : Es} {sg : L2.St} {H0 H : Hp} {mu0 mu : List Addr} {C0 C : List Cl} {hid : List Addr} {Q : VK} {m : Bool} {u : U} {v : V}
def noCall : Expr → Bool
  | .Call _ _ _ _ => false
  | _ => true
theorem base_ok {o : Expr} {x : Str} {env : Env} (h : noCall o = true) : attributeBase o x env (eval o env) = eval o env := by
  cases o <;> first | rfl | cases h
theorem few_all {env : Env} {pos : Pos} : ∀ {es : List Expr}, plainXs es = true → (backTo pos (starEach es env)).all (fun x => !x.1) = true
  | [], _ => by rw [starEach]; rfl
  | e :: es, h => by
    rw [plainXs, Bool.and_eq_true] at h
    rw [starE h.1]
    have := few_all (env := env) (pos := pos) h.2
    simpa [backTo] using this
theorem few_ok {env : Env} {pos : Pos} (h : plainXs es = true) (hl : es.length < 30) : ((backTo pos (starEach es env)).all (fun x => !x.1) && (backToKw pos (keywordEach [] env)).all (fun x => x.1.isSome)
      && decide (es.length + ([] : List Keyword).length + (if ([] : List Keyword).isEmpty then 0 else 1) < 30)) = true := by
  rw [few_all h]
  have e1 : (backToKw pos (keywordEach [] env)).all (fun x => x.1.isSome) = true := by rw [keywordEach]; rfl
  rw [e1]
  simpa using hl
def meT : Me → String
  | .get1 => "dict"
  | .get2 => "dict"
  | _ => "list"
def meN : Me → Str
  | .append => "append"
  | .pop => "pop"
  | .popAt => "pop"
  | .index => "index"
  | .get1 => "get"
  | .get2 => "get"
def meI : Me → String
  | .append => "list.append"
  | .pop => "list.pop"
  | .popAt => "list.pop"
  | .index => "list.index"
  | .get1 => "dict.get"
  | .get2 => "dict.get"
theorem me_pa : ∀ b : Me, PlainAttrs (meT b)
  | .append => PySem.F.plainAttrs_list
  | .pop => PySem.F.plainAttrs_list
  | .popAt => PySem.F.plainAttrs_list
  | .index => PySem.F.plainAttrs_list
  | .get1 => PySem.F.plainAttrs_dict
  | .get2 => PySem.F.plainAttrs_dict
theorem me_slot : ∀ b : Me, Slot (meT b) (meN b) (meI b)
  | .append => PySem.F.slot_list_append
  | .pop => PySem.F.slot_list_pop
  | .popAt => PySem.F.slot_list_pop
  | .index => PySem.F.slot_list_index
  | .get1 => PySem.F.slot_dict_get
  | .get2 => PySem.F.slot_dict_get
theorem me_ty : ∀ b : Me, typeOf (.builtin (meI b)) = pure (.type "method_descriptor")
  | .append => PySem.F.type_list_append
  | .pop => PySem.F.type_list_pop
  | .popAt => PySem.F.type_list_pop
  | .index => PySem.F.type_list_index
  | .get1 => PySem.F.type_dict_get
  | .get2 => PySem.F.type_dict_get
theorem meK_lst {b : Me} {x : U} (hb : b ≠ .get1 ∧ b ≠ .get2) (e : meK b x = true) : ∃ l, x = .lst l := by
  cases b with
  | get1 => exact absurd rfl hb.1
  | get2 => exact absurd rfl hb.2
  | _ =>
    cases x with
    | lst l => exact ⟨l, rfl⟩
    | _ => cases e
theorem meK_dic {b : Me} {x : U} (hb : b = .get1 ∨ b = .get2) (e : meK b x = true) : ∃ t l, x = .dic t l := by
  rcases hb with rfl | rfl
  · cases x with
    | dic t l => exact ⟨t, l, rfl⟩
    | _ => cases e
  · cases x with
    | dic t l => exact ⟨t, l, rfl⟩
    | _ => cases e
theorem me_tyV {b : Me} (k : WOk K cs H mu C hid) (h : RelU K cs (Zof H mu C hid) mu v u) (e : meK b (rd C u) = true) (hb : b ≠ .get1 ∧ b ≠ .get2) : tyV K (meT b) v H := by
  obtain ⟨l, e2⟩ := meK_lst hb e
  obtain ⟨q, ys, rfl, s1, _⟩ := rel_lst k h e2
  have : tyV K "list" (.ref q) H := .inl ⟨rfl, ys, s1⟩
  cases b with
  | get1 => exact absurd rfl hb.1
  | get2 => exact absurd rfl hb.2
  | _ => exact this
/-- a method does what the interpreter's does -/
def MeR (K : PySem.W.Frag) (cs : List ClsD) (P : Cx → Prop) (b : Me) : Prop := ∃ r : V → List V → Hp → VK → Prop, (∀ X, P X → MtR X (meI b) r) ∧
  ∀ sg H0 mu0 C0 hid H mu C v u vs us Q, WOk K cs H mu C hid → Grow hid H0 mu0 C0 H mu C → RelU K cs (Zof H mu C hid) mu v u → RelUs K cs (Zof H mu C hid) mu vs us →
    Wp (EW sg H0 mu0 C0 hid) (meU b u us C) (fun w C' => ∀ v' H' mu', WOk K cs H' mu' C' hid → Grow hid H0 mu0 C0 H' mu' C' → RelU K cs (Zof H' mu' C' hid) mu' v' w → Q v' H') → r v vs H Q
/-- a live list -/
theorem live_lst {k : Nat} {l : List U} (w : WOk K cs H mu C hid) (h : RelU K cs (Zof H mu C hid) mu v (.cel k)) (ek : C[k]? = some ⟨true, .lst l⟩) : ∃ a ys, v = .ref a ∧ mu[k]? = some a ∧ H a = some (.lst ys) ∧ RelUs K cs (Zof H mu C hid) mu ys l := by
  cases h with
  | @cel _ a hk =>
    obtain ⟨a', o, ea, at', rc⟩ := w.ct k _ ek
    rw [hk] at ea
    cases ea
    cases rc with
    | @lst ys _ rl =>
      refine ⟨a, ys, rfl, hk, ?_, rl⟩
      rcases at' with z | ⟨z, _, _⟩
      · exact z
      · cases z
theorem me_append : MeR K cs P .append := by
  refine ⟨_, fun X hX => mt_append, fun sg H0 mu0 C0 hid H mu C v u vs us Q k gr h r w => ?_⟩
  unfold meU at w
  split at w <;> try (rename_i e1; cases e1; done)
  all_goals try (exact w.elim)
  rename_i kc x _
  split at w
  · rename_i l ek
    split at w
    · rename_i hlt
      obtain ⟨p, ys, rfl, hk, hH, rl⟩ := live_lst k h ek
      cases r with
      | @cons y _ _ _ hy r =>
        cases r
        refine ⟨p, ys, y, rfl, rfl, hH, by rw [rl.length]; exact big_lt hlt, ?_⟩
        obtain ⟨g1, k1⟩ := k.setC (o := .lst (ys ++ [y])) (c' := .lst (l ++ [x])) ek hk (.lst (rl.append (.cons hy .nil)))
        exact w _ _ _ k1 (gr.trans g1) .non
    · exact w.elim
  · exact w.elim
theorem rel_last {Z : Hp} {ys : List V} {l : List U} (r : RelUs K cs Z mu ys l) {y : U} (e : l[l.length - 1]? = some y) : ∃ z, ys[ys.length - 1]? = some z ∧ RelU K cs Z mu z y := by
  rw [r.length]
  exact r.get _ _ e
theorem me_pop : MeR K cs P .pop := by
  refine ⟨_, fun X hX => mt_pop, fun sg H0 mu0 C0 hid H mu C v u vs us Q k gr h r w => ?_⟩
  unfold meU at w
  split at w <;> try (rename_i e1; cases e1; done)
  all_goals try (exact w.elim)
  rename_i kc _ _
  split at w
  · rename_i l ek
    split at w
    · rename_i y ey
      obtain ⟨p, ys, rfl, hk, hH, rl⟩ := live_lst k h ek
      cases r
      obtain ⟨z, ez, rz⟩ := rel_last rl ey
      refine ⟨p, ys, z, rfl, rfl, hH, ez, ?_⟩
      obtain ⟨g1, k1⟩ := k.setC (o := .lst ys.dropLast) (c' := .lst l.dropLast) ek hk (.lst rl.dropLast)
      exact w _ _ _ k1 (gr.trans g1) (rz.up g1.up)
    · exact w.elim
  · exact w.elim
theorem seqIx {i : Int} {n : Nat} (h0 : 0 ≤ i) (hn : i.toNat < n) : seqIndex? i n = some i.toNat := by
  unfold seqIndex?
  simp [show ¬ i < 0 by omega, hn]
  omega
theorem me_popAt : MeR K cs P .popAt := by
  refine ⟨_, fun X hX => mt_popAt, fun sg H0 mu0 C0 hid H mu C v u vs us Q k gr h r w => ?_⟩
  unfold meU at w
  split at w <;> try (rename_i e1; cases e1; done)
  all_goals try (exact w.elim)
  rename_i kc i _
  split at w
  · rename_i l ek
    split at w
    · rename_i hi
      split at w
      · rename_i y ey
        obtain ⟨p, ys, rfl, hk, hH, rl⟩ := live_lst k h ek
        cases r with
        | cons hy r =>
          cases r
          obtain ⟨z, ez, rz⟩ := rl.get _ _ ey
          refine ⟨p, ys, i, i.toNat, z, rfl, by rw [hy.int_inv], hH, by omega, by omega, seqIx hi.1 (List.getElem?_eq_some_iff.mp ez).1, ez, ?_⟩
          obtain ⟨g1, k1⟩ := k.setC (o := .lst (ys.eraseIdx i.toNat)) (c' := .lst (l.eraseIdx i.toNat)) ek hk (.lst (rl.eraseIdx _))
          exact w _ _ _ k1 (gr.trans g1) (rz.up g1.up)
      · exact w.elim
    · exact w.elim
  · exact w.elim
theorem find_first {f : PyData → Bool} : ∀ {ds : List PyData} {j : Nat}, ds.findIdx? f = some j → ∃ z, ds[j]? = some z ∧ f z = true ∧ ∀ (m : Nat) (z' : PyData), m < j → ds[m]? = some z' → f z' = false
  | [], _, h => by simp at h
  | d :: ds, j, h => by
    rw [List.findIdx?_cons] at h
    split at h
    · rename_i hd
      cases h
      exact ⟨d, rfl, hd, fun m z' hm => absurd hm (Nat.not_lt_zero _)⟩
    · rename_i hd
      cases e : ds.findIdx? f with
      | none => simp [e] at h
      | some i =>
        have h : i + 1 = j := by simpa [e] using h
        subst h
        obtain ⟨z, h1, h2, h3⟩ := find_first e
        refine ⟨z, by simpa using h1, h2, fun m z' hm hz => ?_⟩
        cases m with
        | zero =>
          have hz : d = z' := by simpa using hz
          subst hz
          cases q : f d with
          | false => rfl
          | true => exact absurd q hd
        | succ m => exact h3 m z' (by omega) (by simpa using hz)
theorem me_index (F : Fam K P) : MeR K cs P .index := by
  refine ⟨_, fun X hX => F.k X hX ▸ mt_indexD (F.hu X hX), fun sg H0 mu0 C0 hid H mu C v u vs us Q k gr h r w => ?_⟩
  unfold meU at w
  split at w <;> try (rename_i e1; cases e1; done)
  all_goals try (exact w.elim)
  rename_i x _
  split at w
  · rename_i l e1
    split at w
    · rename_i ds d e2 e3
      split at w
      · rename_i hs
        split at w
        · rename_i j ej
          cases r with
          | @cons y _ _ _ hy r =>
            cases r
            obtain ⟨p, ys, rfl, s1, rl⟩ := rel_lst k h e1
            obtain ⟨z, h1, h2, h3⟩ := find_first ej
            have dl : Dp K H (V.ref p) (.list ds) := by
              unfold pd at e2
              cases q2 : pds l with
              | none => rw [q2] at e2; cases e2
              | some ds' =>
                rw [q2] at e2
                cases e2
                exact .lst s1 (dps_of zof_le rl q2)
            exact ⟨p, y, d, ds, j, z, rfl, rfl, dl, dp_rd k hy e3, hs.1, hs.2, h1, h2, h3, w _ _ _ k gr (.int _)⟩
        · exact w.elim
      · exact w.elim
    · exact w.elim
  · exact w.elim
theorem me_rule (F : Fam K P) : ∀ b : Me, b ≠ .get1 ∧ b ≠ .get2 → MeR K cs P b
  | .append, _ => me_append
  | .pop, _ => me_pop
  | .popAt, _ => me_popAt
  | .index, _ => me_index F
  | .get1, h => absurd rfl h.1
  | .get2, h => absurd rfl h.2
theorem snd_meL (F : Fam K P) {mb : Me} {apos : Pos} (hmb : mb ≠ .get1 ∧ mb ≠ .get2) (ho : noCall a = true) (hb : plainXs (b :: es) = true) (hl : (apos.endLine == pos.line) = true) (hn : (b :: es).length < 30) (ha : SndE K cs P a (evE g ea)) (hs : SndA K cs P (b :: es) (evEs g xs)) :
    SndE K cs P (.Call (.Attribute a (meN mb) apos) (b :: es) [] pos) (evE g (.me mb ea xs)) := by
  obtain ⟨t, p, s⟩ := ha
  obtain ⟨t', p', s'⟩ := hs
  obtain ⟨r, hr, sem⟩ := me_rule (cs := cs) F mb hmb
  have hb' := hb
  rw [plainXs, Bool.and_eq_true] at hb'
  refine ⟨_, fun X hX => F.k X hX ▸ pe_bm (me_pa mb) (me_slot mb) (me_ty mb) (hr X hX) (p X hX) (p' X hX) (base_ok ho) (few_ok hb hn) hl (starE hb'.1) (starEs hb'.2), fun sg H r mu C hid st Q w => ?_⟩
  simp only [evE] at w
  refine s sg H r mu C hid st _ (w.bind.mono (fun _ _ _ e => e) fun u C1 w1 v H1 mu1 k1 g1 e1 => ?_)
  split at w1
  · rename_i hk
    refine ⟨me_tyV k1 e1 hk hmb, ?_⟩
    refine s' sg H1 r mu1 C1 hid (st.grow k1 g1) _ (w1.bind.mono (EW.dn g1) fun us C2 w2 vs H2 mu2 k2 g2 e2 => ?_)
    exact sem sg H mu C hid H2 mu2 C2 v u vs us Q k2 (g1.trans g2) (e1.up g2.up) e2 w2
  · exact w1.elim
theorem snd_pop (F : Fam K P) {apos : Pos} (ho : noCall a = true) (hl : (apos.endLine == pos.line) = true) (ha : SndE K cs P a (evE g ea)) :
    SndE K cs P (.Call (.Attribute a "pop" apos) [] [] pos) (evE g (.me .pop ea .nil)) := by
  obtain ⟨t, p, s⟩ := ha
  obtain ⟨r, hr, sem⟩ := me_rule (cs := cs) F .pop ⟨by decide, by decide⟩
  refine ⟨_, fun X hX => F.k X hX ▸ pe_bm0 (me_pa .pop) (me_slot .pop) (me_ty .pop) (hr X hX) (p X hX) (base_ok ho) hl, fun sg H r mu C hid st Q w => ?_⟩
  simp only [evE] at w
  refine s sg H r mu C hid st _ (w.bind.mono (fun _ _ _ e => e) fun u C1 w1 v H1 mu1 k1 g1 e1 => ?_)
  split at w1
  · rename_i hk
    refine ⟨me_tyV k1 e1 hk ⟨by decide, by decide⟩, ?_⟩
    simp only [evEs, Rs.bind] at w1
    exact sem sg H mu C hid H1 mu1 C1 v u [] [] Q k1 g1 e1 .nil w1
  · exact w1.elim
/-- d.get(k) -/
theorem snd_get1 (F : Fam K P) {apos : Pos} (ho : noCall a = true) (hb : plainX b = true) (hl : (apos.endLine == pos.line) = true) (ha : SndE K cs P a (evE g ea)) (hs : SndE K cs P b (evE g eb)) :
    SndE K cs P (.Call (.Attribute a "get" apos) [b] [] pos) (evE g (.me .get1 ea (.cons eb .nil))) := by
  obtain ⟨t, p, s⟩ := ha
  obtain ⟨t', p', s'⟩ := hs
  refine ⟨_, fun X hX => pe_dget1 (by have := F.hu X hX; omega) (p X hX) (p' X hX) ⟨base_ok ho, few_ok (by rw [plainXs, hb]; rfl) (by simp), hl, by rw [starE hb, starEach]; rfl⟩, fun sg H r mu C hid st Q w => ?_⟩
  simp only [evE] at w
  refine s sg H r mu C hid st _ (w.bind.mono (fun _ _ _ e => e) fun u C1 w1 v H1 mu1 k1 g1 e1 => ?_)
  split at w1
  · rename_i hk
    obtain ⟨tk, l, e2⟩ := meK_dic (.inl rfl) hk
    obtain ⟨q, rfl, dd⟩ := rel_dic k1 e1 e2
    have isd : IsD H1 q := by
      rcases dd with ⟨_, kvs, z, _⟩ | ⟨_, kvs, z, _⟩
      · exact .inl ⟨kvs, z⟩
      · exact .inr ⟨kvs, z⟩
    refine ⟨q, rfl, isd, ?_⟩
    simp only [evEs] at w1
    refine s' sg H1 r mu1 C1 hid (st.grow k1 g1) _ (w1.bind.bind.mono (EW.dn g1) fun y C2 w2 yv H2 mu2 k2 g2 e3 => ?_)
    replace w2 : Wp (EW sg H mu C hid) (meU .get1 u [y] C2) _ := w2
    unfold meU at w2
    dsimp only at w2
    split at w2
    · rename_i t2 l2 e4
      split at w2
      · rename_i hk2
        obtain ⟨q', eq, _, alt⟩ := dget_rule k2 (e1.up g2.up) e3 e4 hk2
        cases eq
        rcases alt with ⟨n1, n2⟩ | ⟨x, v, n1, n2, n3⟩
        · rw [n1] at w2
          exact ⟨none, n2, w2 _ _ _ k2 (g1.trans g2) .non⟩
        · rw [n1] at w2
          exact ⟨some v, n2, w2 _ _ _ k2 (g1.trans g2) n3⟩
      · exact w2.elim
    · exact w2.elim
  · exact w1.elim
/-- d.get(k, x) -/
theorem snd_get2 (F : Fam K P) {apos : Pos} (ho : noCall a = true) (hb : plainX b = true) (hc : plainX c = true) (hl : (apos.endLine == pos.line) = true) (ha : SndE K cs P a (evE g ea)) (hs : SndE K cs P b (evE g eb)) (hs2 : SndE K cs P c (evE g ec)) :
    SndE K cs P (.Call (.Attribute a "get" apos) [b, c] [] pos) (evE g (.me .get2 ea (.cons eb (.cons ec .nil)))) := by
  obtain ⟨t, p, s⟩ := ha
  obtain ⟨t', p', s'⟩ := hs
  obtain ⟨t'', p'', s''⟩ := hs2
  refine ⟨_, fun X hX => pe_dget2 (by have := F.hu X hX; omega) (p X hX) (p' X hX) (p'' X hX) ⟨base_ok ho, few_ok (by rw [plainXs, plainXs, hb, hc]; rfl) (by simp), hl, by rw [starE hb, starE hc, starEach]; rfl⟩, fun sg H r mu C hid st Q w => ?_⟩
  simp only [evE] at w
  refine s sg H r mu C hid st _ (w.bind.mono (fun _ _ _ e => e) fun u C1 w1 v H1 mu1 k1 g1 e1 => ?_)
  split at w1
  · rename_i hk
    obtain ⟨tk, l, e2⟩ := meK_dic (.inr rfl) hk
    obtain ⟨q, rfl, dd⟩ := rel_dic k1 e1 e2
    have isd : IsD H1 q := by
      rcases dd with ⟨_, kvs, z, _⟩ | ⟨_, kvs, z, _⟩
      · exact .inl ⟨kvs, z⟩
      · exact .inr ⟨kvs, z⟩
    refine ⟨q, rfl, isd, ?_⟩
    simp only [evEs] at w1
    refine s' sg H1 r mu1 C1 hid (st.grow k1 g1) _ (w1.bind.bind.mono (EW.dn g1) fun y C2 w2 yv H2 mu2 k2 g2 e3 => ?_)
    refine s'' sg H2 r mu2 C2 hid (st.grow k2 (g1.trans g2)) _ (w2.bind.bind.mono (EW.dn (g1.trans g2)) fun z C3 w3 zv H3 mu3 k3 g3 e5 => ?_)
    replace w3 : Wp (EW sg H mu C hid) (meU .get2 u [y, z] C3) _ := w3
    unfold meU at w3
    dsimp only at w3
    split at w3
    · rename_i t2 l2 e4
      split at w3
      · rename_i hk2
        obtain ⟨q', eq, _, alt⟩ := dget_rule k3 (e1.up (g2.trans g3).up) (e3.up g3.up) e4 hk2
        cases eq
        rcases alt with ⟨n1, n2⟩ | ⟨x, v, n1, n2, n3⟩
        · rw [n1] at w3
          exact ⟨none, n2, w3 _ _ _ k3 ((g1.trans g2).trans g3) e5⟩
        · rw [n1] at w3
          exact ⟨some v, n2, w3 _ _ _ k3 ((g1.trans g2).trans g3) n3⟩
      · exact w3.elim
    · exact w3.elim
  · exact w1.elim
end
end Py
namespace Py
open PySem Spec PyProof.Rows L2
/-- a def's promise, by the interpreter -/
def spOf (K : PySem.W.Frag) (cs : List ClsD) (np : Nat) (f : List U → List Cl → Rs U) : Sp := fun vs H Q _ => vs.length = np ∧ ∃ us mu C hid, WOk K cs H mu C hid ∧ RelUs K cs (Zof H mu C hid) mu vs us ∧
  Wp (fun _ _ _ => False) (f us C) (fun u C' => ∀ v H' mu', WOk K cs H' mu' C' hid → Grow hid H mu C H' mu' C' → RelU K cs (Zof H' mu' C' hid) mu' v u → Q v H')
/-- a def that may be called by its name, every argument given -/
def KnF (K : PySem.W.Frag) (cs : List ClsD) (P : Cx → Prop) (x : Str) (np : Nat) (f : List U → List Cl → Rs U) : Prop := ∃ (k : Nat) (fa : Addr) (fd : FuncData) (ps : List Str),
  (∀ us C, f us C ≠ .no → us.length = np) ∧ ∀ X, P X → FnOk X.prog X.w X.K X.mg X.base C8.CX0 k fa fd ps (spOf K cs np f) ∧ Room k X.A ∧ X.mg x = some (.ref fa) ∧ PySem.W.keepIn X.K (.ref fa) = true ∧ Binds X.K fd ps []
def permV {α : Type} (p : List Nat) (l : List α) : List α := p.filterMap fun i => l[i]?
/-- .. by n arguments in their places and the keywords ks -/
def KnK (K : PySem.W.Frag) (cs : List ClsD) (P : Cx → Prop) (x : Str) (np : Nat) (f : List U → List Cl → Rs U) (n : Nat) (ks : List Str) (p : List Nat) : Prop := ∃ (k : Nat) (fa : Addr) (fd : FuncData) (ps : List Str),
  (∀ us C, f us C ≠ .no → us.length = np) ∧ ∀ X, P X → FnOk X.prog X.w X.K X.mg X.base C8.CX0 k fa fd ps (spOf K cs np f) ∧ Room k X.A ∧ X.mg x = some (.ref fa) ∧ PySem.W.keepIn X.K (.ref fa) = true ∧
  KBn X.K fd ps n ks (fun us ws => permV p (us ++ ws)) (fun us ws => permV p (us ++ ws))
def Es.len : Es → Nat
  | .nil => 0
  | .cons _ es => es.len + 1
theorem Wp.and_eq {α : Type} {E : Nat → List U → List Cl → Prop} {r : Rs α} {Q : α → List Cl → Prop} (h : Wp E r Q) : Wp E r fun a C => Q a C ∧ r = .ok a C := by
  cases r with
  | ok a C => exact ⟨h, rfl⟩
  | er c l C => exact h
  | no => exact h
theorem Wp.ne {α : Type} {E : Nat → List U → List Cl → Prop} {r : Rs α} {Q : α → List Cl → Prop} (h : Wp E r Q) : r ≠ .no := by
  rintro rfl
  exact h
section
variable {K : PySem.W.Frag} {P : Cx → Prop} {cs : List ClsD} {a b c tg : Expr} {pos : Pos} {ea eb ec : E} {g : Gm} {es : List Expr} {xs ys : Es} {sg : L2.St} {H0 H : Hp} {mu0 mu : List Addr} {C0 C : List Cl} {hid : List Addr} {Q : VK} {m : Bool} {u : U} {v : V}
theorem evEs_len : ∀ (xs : Es) {r : Sl} {C : List Cl} {us : List U} {C' : List Cl}, evEs g xs r C = .ok us C' → us.length = xs.len
  | .nil, r, C, us, C', h => by
    simp only [evEs] at h
    cases h
    rfl
  | .cons e es, r, C, us, C', h => by
    simp only [evEs] at h
    cases e1 : evE g e r C with
    | no => rw [e1] at h; cases h
    | er _ _ _ => rw [e1] at h; cases h
    | ok u C1 =>
      rw [e1] at h
      replace h : (evEs g es r C1).bind (fun us C2 => Rs.ok (u :: us) C2) = .ok us C' := h
      cases e2 : evEs g es r C1 with
      | no => rw [e2] at h; cases h
      | er _ _ _ => rw [e2] at h; cases h
      | ok us' C2 =>
        rw [e2] at h
        cases h
        exact congrArg (· + 1) (evEs_len es e2)
/-- the wish behind a call -/
theorem sp_of {np : Nat} {f : List U → List Cl → Rs U} {vs : List V} {us : List U} {E : XK} (hl : ∀ us C, f us C ≠ .no → us.length = np) (k : WOk K cs H mu C hid) (gr : Grow hid H0 mu0 C0 H mu C) (r : RelUs K cs (Zof H mu C hid) mu vs us)
    (w : Wp (EW sg H0 mu0 C0 hid) (f us C) (fun u C' => ∀ v H' mu', WOk K cs H' mu' C' hid → Grow hid H0 mu0 C0 H' mu' C' → RelU K cs (Zof H' mu' C' hid) mu' v u → Q v H')) : spOf K cs np f vs H Q E :=
  ⟨r.length.trans (hl us C w.ne), us, mu, C, hid, k, r, w.mono (fun _ _ _ e => e) fun u C' q v H' mu' k' g' r' => q v H' mu' k' (gr.trans g') r'⟩
theorem snd_call {x : Str} {p : Pos} {j np : Nat} (hk : KnF K cs P x np (g.cf j)) (hg : ∀ X, P X → L2.Gl X x) (hdb : (x == ("__debug__" : Str)) = false) (hx : plainX a = true) (hs : plainXs es = true) (ha : SndA K cs P (a :: es) (evEs g xs)) :
    SndE K cs P (.Call (.Name x p) (a :: es) [] pos) (evE g (.call j xs)) := by
  obtain ⟨t, pr, s⟩ := ha
  obtain ⟨k, fa, fd, ps, hl, hf⟩ := hk
  refine ⟨tCall (spOf K cs np (g.cf j)) [] C8.E0 t, fun X hX => ?_, fun sg H r mu C hid st Q w => ?_⟩
  · obtain ⟨f1, f2, f3, f4, f5⟩ := hf X hX
    exact pe_call f1 f2 (hg X hX) f3 f4 f5 .nil C8.pass0 (pr X hX) hdb (starE hx) (starEs hs)
  · simp only [evE] at w
    refine s sg H r mu C hid st _ (w.bind.mono (fun _ _ _ e => e) fun us C1 w1 vs H1 mu1 k1 g1 e1 => ?_)
    rw [List.append_nil]
    exact sp_of hl k1 g1 e1 w1
theorem snd_call0 {x : Str} {p : Pos} {j np : Nat} (hk : KnF K cs P x np (g.cf j)) (hg : ∀ X, P X → L2.Gl X x) (hdb : (x == ("__debug__" : Str)) = false) :
    SndE K cs P (.Call (.Name x p) [] [] pos) (evE g (.call j .nil)) := by
  obtain ⟨k, fa, fd, ps, hl, hf⟩ := hk
  refine ⟨tCall (spOf K cs np (g.cf j)) [] C8.E0 tNil, fun X hX => ?_, fun sg H r mu C hid st Q w => ?_⟩
  · obtain ⟨f1, f2, f3, f4, f5⟩ := hf X hX
    exact pe_call0 f1 f2 (hg X hX) f3 f4 f5 .nil C8.pass0 hdb
  · simp only [evE, evEs] at w
    exact sp_of (E := C8.E0) hl st.w Grow.refl .nil w.bind
/-! ### keywords -/
def SndK (K : PySem.W.Frag) (cs : List ClsD) (P : Cx → Prop) (kws : List Keyword) (f : Sl → List Cl → Rs (List U)) : Prop := ∃ t : TA, (∀ X, P X → PK X kws t) ∧ ∀ sg H r mu C hid, StOk K cs sg H r mu C hid → ∀ Q : List V → Hp → Prop,
  Wp (EW sg H mu C hid) (f r C) (fun us C' => ∀ vs H' mu', WOk K cs H' mu' C' hid → Grow hid H mu C H' mu' C' → RelUs K cs (Zof H' mu' C' hid) mu' vs us → Q vs H') → t sg H Q
theorem sndK_nil : SndK K cs P [] (evEs g .nil) := ⟨_, fun _ _ => pk_nil, fun sg H r mu C hid st Q w => by
  simp only [evEs] at w
  exact w _ _ _ st.w Grow.refl .nil⟩
theorem sndK_cons {nm : Option Str} {kpos : Pos} {kws : List Keyword} (ha : SndE K cs P a (evE g ea)) (hs : SndK K cs P kws (evEs g xs)) : SndK K cs P (⟨nm, a, kpos⟩ :: kws) (evEs g (.cons ea xs)) := by
  obtain ⟨t, p, s⟩ := ha
  obtain ⟨t', p', s'⟩ := hs
  refine ⟨_, fun X hX => pk_cons (p X hX) (p' X hX), fun sg H r mu C hid st Q w => ?_⟩
  simp only [evEs] at w
  refine s sg H r mu C hid st _ (w.bind.mono (fun _ _ _ e => e) fun u C1 w1 v H1 mu1 k1 g1 e1 => ?_)
  refine s' sg H1 r mu1 C1 hid (st.grow k1 g1) _ (w1.bind.mono (EW.dn g1) fun us C2 w2 vs H2 mu2 k2 g2 e2 => ?_)
  exact w2 _ _ _ k2 (g1.trans g2) (.cons (e1.up g2.up) e2)
theorem perm_rel {Z : Hp} {vs : List V} {us ws : List U} (r : RelUs K cs Z mu vs us) : ∀ {p : List Nat} {xs : List U}, permU p us = some xs → RelUs K cs Z mu (permV p vs) xs
  | [], xs, e => by
    unfold permU at e
    cases e
    exact .nil
  | i :: p, xs, e => by
    unfold permU at e
    rw [List.mapM_cons] at e
    cases e1 : us[i]? with
    | none => rw [e1] at e; cases e
    | some u =>
      rw [e1] at e
      cases e2 : p.mapM (fun i => us[i]?) with
      | none => simp [e2] at e
      | some xs' =>
        have e : u :: xs' = xs := by simpa [e2] using e
        subst e
        obtain ⟨v, h1, h2⟩ := r.get i u e1
        have : permV (i :: p) vs = v :: permV p vs := by
          unfold permV
          rw [List.filterMap_cons, h1]
        rw [this]
        exact .cons h2 (perm_rel (ws := ws) r e2)
def kwsOk : List Keyword → List Str → Bool
  | [], [] => true
  | ⟨some x, _, _⟩ :: kws, y :: ks => decide (x = y) && kwsOk kws ks
  | _, _ => false
theorem kws_facts {env : Env} {pos : Pos} : ∀ {kws : List Keyword} {ks : List Str}, kwsOk kws ks = true → (backToKw pos (keywordEach kws env)).all (·.1.isSome) = true ∧ (backToKw pos (keywordEach kws env)).filterMap (·.1) = ks ∧ (backToKw pos (keywordEach kws env)).any (·.1.isNone) = false
  | [], [], _ => by
    rw [keywordEach]
    exact ⟨rfl, rfl, rfl⟩
  | ⟨some x, v, _⟩ :: kws, y :: ks, h => by
    rw [kwsOk, Bool.and_eq_true] at h
    obtain ⟨h1, h2⟩ := h
    have h1 : x = y := of_decide_eq_true h1
    subst h1
    obtain ⟨a1, a2, a3⟩ := kws_facts (env := env) (pos := pos) h2
    rw [keywordEach]
    refine ⟨?_, ?_, ?_⟩
    · simpa [backToKw] using a1
    · simpa [backToKw] using a2
    · simpa [backToKw] using a3
  | ⟨none, _, _⟩ :: _, _, h => by simp [kwsOk] at h
  | [], _ :: _, h => by simp [kwsOk] at h
  | ⟨some _, _, _⟩ :: _, [], h => by simp [kwsOk] at h
/-- f(k = v, ..) -/
theorem pe_callN0 {X : Cx} {CX : CXT} {k : Nat} {f : Addr} {fd : FuncData} {ps ks : List Str} {sp : Sp} {E : XK} {x : Str} {p pos : Pos} {kws : List Keyword} {tk : TA} {g : List Value → List Value → List Value} {gV : List V → List V → List V}
    (F : FnOk X.prog X.w X.K X.mg X.base CX k f fd ps sp) (hr : Room k X.A) (hg : L2.Gl X x) (hm : X.mg x = some (.ref f)) (hk : PySem.W.keepIn X.K (.ref f) = true) (hb : KBn X.K fd ps 0 ks g gV) (hx : Passes CX X E)
    (hkw : PK X kws tk) (hall : (backToKw pos (keywordEach kws X.env)).all (·.1.isSome) = true) (hks : (backToKw pos (keywordEach kws X.env)).filterMap (·.1) = ks)
    (hdb : (x == ("__debug__" : Str)) = false) (hpl : (backToKw pos (keywordEach kws X.env)).any (·.1.isNone) = false) :
    PE X (.Call (.Name x p) [] kws pos) (tCallN 0 ks.length sp gV E tNil tk) := by
  refine ⟨fun pins s σ H Q I h => ?_⟩
  refine wpAny_Call_Name_kw (ld_glob I hg hm ?_ hdb)
  refine PySem.W.callWith_KW0 (h₀ := X.base) I.ok.mod.kin hk hall (thn (hkw.run pos pins s σ H _ I h) fun ws s2 ⟨zs, H2, I2, rz, l1, l2, q2⟩ => ⟨I2.kIn, ?_⟩) (by rw [starEach, hpl]; rfl)
  rw [hks]
  exact run_fnN (us := []) F hr hb hx I2 .nil rz l1 l2 q2
theorem snd_callK {x : Str} {p : Pos} {j np : Nat} {kws : List Keyword} {ks : List Str} {pm : List Nat} (hk : KnK K cs P x np (g.cf j) es.length.succ ks pm) (hg : ∀ X, P X → L2.Gl X x) (hdb : (x == ("__debug__" : Str)) = false) (hx : plainX a = true) (hs : plainXs es = true) (hkw : kwsOk kws ks = true) (hl1 : xs.len = es.length.succ) (hl2 : ys.len = ks.length)
    (ha : SndA K cs P (a :: es) (evEs g xs)) (hy : SndK K cs P kws (evEs g ys)) :
    SndE K cs P (.Call (.Name x p) (a :: es) kws pos) (evE g (.callK j xs ys pm)) := by
  obtain ⟨t, pr, s⟩ := ha
  obtain ⟨t', pr', s'⟩ := hy
  obtain ⟨k, fa, fd, ps, hl, hf⟩ := hk
  refine ⟨tCallN es.length.succ ks.length (spOf K cs np (g.cf j)) (fun us ws => permV pm (us ++ ws)) C8.E0 t t', fun X hX => ?_, fun sg H r mu C hid st Q w => ?_⟩
  · obtain ⟨f1, f2, f3, f4, f5⟩ := hf X hX
    obtain ⟨a1, a2, a3⟩ := kws_facts (env := X.env) (pos := pos) hkw
    refine pe_callN f1 f2 (hg X hX) f3 f4 f5 C8.pass0 (pr X hX) (pr' X hX) a1 a2 hdb (starE hx) ?_
    rw [a3, starEs (es := a :: es) (by rw [plainXs, hx, hs]; rfl)]
    rfl
  · simp only [evE] at w
    refine s sg H r mu C hid st _ (w.bind.and_eq.mono (fun _ _ _ e => e) fun us C1 ⟨w1, q1⟩ vs H1 mu1 k1 g1 e1 => ?_)
    refine s' sg H1 r mu1 C1 hid (st.grow k1 g1) _ (w1.bind.and_eq.mono (EW.dn g1) fun ws C2 ⟨w2, q2⟩ zs H2 mu2 k2 g2 e2 => ?_)
    refine ⟨e1.length.trans ((evEs_len xs q1).trans hl1), e2.length.trans ((evEs_len ys q2).trans hl2), ?_⟩
    cases e3 : permU pm (us ++ ws) with
    | none => rw [e3] at w2; exact w2.elim
    | some us' =>
      rw [e3] at w2
      exact sp_of hl k2 (g1.trans g2) (perm_rel (ws := ws) ((e1.up g2.up).append e2) e3) w2
theorem snd_callK0 {x : Str} {p : Pos} {j np : Nat} {kws : List Keyword} {ks : List Str} {pm : List Nat} (hk : KnK K cs P x np (g.cf j) 0 ks pm) (hg : ∀ X, P X → L2.Gl X x) (hdb : (x == ("__debug__" : Str)) = false) (hkw : kwsOk kws ks = true) (hl2 : ys.len = ks.length)
    (hy : SndK K cs P kws (evEs g ys)) :
    SndE K cs P (.Call (.Name x p) [] kws pos) (evE g (.callK j .nil ys pm)) := by
  obtain ⟨t', pr', s'⟩ := hy
  obtain ⟨k, fa, fd, ps, hl, hf⟩ := hk
  refine ⟨tCallN 0 ks.length (spOf K cs np (g.cf j)) (fun us ws => permV pm (us ++ ws)) C8.E0 tNil t', fun X hX => ?_, fun sg H r mu C hid st Q w => ?_⟩
  · obtain ⟨f1, f2, f3, f4, f5⟩ := hf X hX
    obtain ⟨a1, a2, a3⟩ := kws_facts (env := X.env) (pos := pos) hkw
    exact pe_callN0 f1 f2 (hg X hX) f3 f4 f5 C8.pass0 (pr' X hX) a1 a2 hdb a3
  · simp only [evE, evEs] at w
    refine s' sg H r mu C hid st _ (w.bind.bind.and_eq.mono (fun _ _ _ e => e) fun ws C2 ⟨w2, q2⟩ zs H2 mu2 k2 g2 e2 => ?_)
    refine ⟨rfl, e2.length.trans ((evEs_len ys q2).trans hl2), ?_⟩
    rw [List.nil_append] at w2
    cases e3 : permU pm ws with
    | none => rw [e3] at w2; exact w2.elim
    | some us' =>
      rw [e3] at w2
      exact sp_of hl k2 g2 (perm_rel (ws := ws) e2 e3) w2
/-! ### range(a, b, c), enumerate(list) -/
theorem it_down {i j : Int} : Walk (Itc i (-1) (i - j).toNat) (rngDown i j).length (fun _ => True) (YFn fun n => .int (i + (n : Nat) * (-1))) ∧ ItOk K cs H mu C hid (rngDown i j) (fun _ => True) (YFn fun n => .int (i + (n : Nat) * (-1))) := by
  have hl : (rngDown i j).length = (i - j).toNat := by simp [rngDown]
  refine ⟨by rw [hl]; exact walk_rangeC, fun H2 mu2 C2 hid2 up k2 => ⟨trivial, fun n x H3 h y => ?_⟩⟩
  obtain ⟨rfl, rfl⟩ := y
  rw [hl] at h
  refine ⟨.int (i - n), by simp [rngDown, h], k2, Grow.refl, ?_⟩
  show RelU K cs _ _ (V.int (i + (n : Int) * (-1))) _
  rw [show i + (n : Int) * (-1) = i - n by omega]
  exact .int _
theorem sndI_rng3 {p : Pos} (hg : ∀ X, P X → L2.Gl X "range") (hm : ∀ X, P X → X.mg "range" = none) (hs : plainX a = true) (hs' : plainXs [b, c] = true) (ha : SndA K cs P [a, b, c] (evEs g (.cons ea (.cons eb (.cons ec .nil))))) :
    SndI K cs P tg (.Call (.Name "range" p) [a, b, c] [] pos) (evI g (.rng3 ea eb ec)) := by
  obtain ⟨t, pr, s⟩ := ha
  refine ⟨_, fun X hX => pi_range3 (hg X hX) (hm X hX) (pr X hX) (starE hs) (starEs hs'), fun sg H r mu C hid st R w => ?_⟩
  simp only [evI] at w
  refine s sg H r mu C hid st _ ?_
  simp only [evEs]
  cases e1 : evE g ea r C with
  | no => rw [e1] at w; exact w.elim
  | er _ _ _ => rw [e1] at w; exact w.elim
  | ok x C1 =>
    rw [e1] at w
    replace w : Wp (EW sg H mu C hid) ((evE g eb r C1).bind _) _ := w
    simp only [Rs.bind]
    cases e2 : evE g eb r C1 with
    | no => rw [e2] at w; exact w.elim
    | er _ _ _ => rw [e2] at w; exact w.elim
    | ok y C2 =>
      rw [e2] at w
      replace w : Wp (EW sg H mu C hid) ((evE g ec r C2).bind _) _ := w
      cases e3 : evE g ec r C2 with
      | no => rw [e3] at w; exact w.elim
      | er _ _ _ => rw [e3] at w; exact w.elim
      | ok z C3 =>
        rw [e3] at w
        simp only [e3]
        show ∀ vs H' mu', WOk K cs H' mu' C3 hid → Grow hid H mu C H' mu' C3 → RelUs K cs (Zof H' mu' C3 hid) mu' vs [x, y, z] → _
        intro vs H1 mu1 k1 g1 r1
        simp only [Rs.bind] at w
        match x, y, z, r1, w with
        | .int i, .int j, .int k, .cons r1 (.cons r2 (.cons r3 .nil)), w =>
          dsimp only at w
          split at w
          · rename_i hc
            obtain ⟨h1, h2⟩ := hc
            subst h2
            have h1 := of_decide_eq_true h1
            refine ⟨i, j, -1, (i - j).toNat, by rw [r1.int_inv, r2.int_inv, r3.int_inv], RgC.neg h1.1 h1.2.1 h1.2.2.1 h1.2.2.2, ?_⟩
            have dd := it_down (K := K) (cs := cs) (H := H1) (mu := mu1) (C := C3) (hid := hid) (i := i) (j := j)
            exact w _ _ _ _ _ k1 g1 dd.1 dd.2
          · exact w.elim
theorem enumU_get {l : List U} {i : Nat} {u : U} (e : l[i]? = some u) : (enumU l)[i]? = some (.tup [.int (i : Nat), u]) := by
  obtain ⟨h, e⟩ := List.getElem?_eq_some_iff.mp e
  unfold enumU
  rw [List.getElem?_zipWith]
  simp [h, e]
theorem enumU_len {l : List U} : (enumU l).length = l.length := by simp [enumU]
theorem it_enum {p : Addr} {vs : List V} {l : List U} (s : SqL K (Zof H mu C hid) p vs) (r : RelUs K cs (Zof H mu C hid) mu vs l) : Walk (Ite K p) (enumU l).length (fun H => SqL K H p vs) (YPair (fun i => some (.int (i : Nat))) (fun i => vs[i]?)) ∧
    ItOk K cs H mu C hid (enumU l) (fun H => SqL K H p vs) (YPair (fun i => some (.int (i : Nat))) (fun i => vs[i]?)) := by
  refine ⟨by rw [enumU_len, ← r.length]; exact walk_enum, fun H2 mu2 C2 hid2 up k2 => ⟨?_, fun i x H3 hi y => ?_⟩⟩
  · rcases up.sqL s with z | z
    · exact .inl (zof_rd z)
    · exact .inr z
  · obtain ⟨T, a1, b1, rfl, hT, rfl, ea, eb⟩ := y
    rw [enumU_len] at hi
    obtain ⟨v3, e1, e2⟩ := r.get i l[i] (by simp [hi])
    have ea : V.int (i : Nat) = a1 := Option.some.inj ea
    have eb : vs[i]? = some b1 := eb
    rw [e1] at eb
    have eb := Option.some.inj eb
    subst eb
    subst ea
    obtain ⟨g3, k3, z⟩ := k2.newZ (o := .tup [.int (i : Nat), v3]) hT
    exact ⟨_, enumU_get (u := l[i]) (by simp [hi]), k3, g3, .tup z (.cons (.int _) (.cons ((e2.up up).up g3.up) .nil))⟩
theorem sndI_enum (F : Fam K P) {p tpos : Pos} {elts : List Expr} {kk : Nat} (hg : ∀ X, P X → L2.Gl X "enumerate") (hm : ∀ X, P X → X.mg "enumerate" = none) (hs : plainX a = true) (ha : SndE K cs P a (evE g ea)) :
    SndI K cs P (.Tuple elts kk tpos) (.Call (.Name "enumerate" p) [a] [] pos) (evI g (.enum ea)) := by
  obtain ⟨t, pr, s⟩ := ha
  refine ⟨_, fun X hX => F.k X hX ▸ pi_enum (hg X hX) (hm X hX) (pa_cons (pr X hX) pa_nil (starE hs)) (starE hs), fun sg H r mu C hid st R w => ?_⟩
  simp only [evI] at w
  refine s sg H r mu C hid st _ (w.bind.mono (fun _ _ _ e => e) fun u C1 w1 v H1 mu1 k1 g1 e1 => ?_)
  cases e1 with
  | @lst p' ys l z r1 =>
    have s1 : SqL K (Zof H1 mu1 C1 hid) p' ys := .inl (.inl z)
    refine ⟨p', ys, rfl, .inl (.inl (zof_le _ _ z)), ?_⟩
    exact w1 _ _ _ _ _ k1 g1 (it_enum s1 r1).1 (it_enum s1 r1).2
  | @klst p' ys l z r1 =>
    refine ⟨p', ys, rfl, ?_, ?_⟩
    · rcases z with z | z
      · exact .inl (zof_rd z)
      · exact .inr z
    · exact w1 _ _ _ _ _ k1 g1 (it_enum z r1).1 (it_enum z r1).2
  | @cel kk p' hk =>
    unfold walkL walkU at w1
    dsimp only at w1
    cases ek : C1[kk]? with
    | none => rw [ek] at w1; exact w1.elim
    | some cc =>
      obtain ⟨lv, ct⟩ := cc
      cases ct with
      | lst l =>
        rw [ek] at w1
        obtain ⟨ys, g2, k2, z, r1⟩ := frz_cell k1 ek hk
        have s1 : SqL K (Zof H1 mu1 (frzC kk C1) hid) p' ys := .inl (.inl z)
        refine ⟨p', ys, rfl, .inl (.inl (zof_le _ _ z)), ?_⟩
        exact w1 _ _ _ _ _ k2 (g1.trans g2) (it_enum s1 r1).1 (it_enum s1 r1).2
      | dic t l => rw [ek] at w1; exact w1.elim
      | ins c l => rw [ek] at w1; exact w1.elim
  | _ => exact w1.elim
/-! ### list(range(..)) -/
theorem rg_rel {Z : Hp} (i j : Int) : RelUs K cs Z mu (rgV i j) (rngU i j) := by
  have go : ∀ l : List Nat, RelUs K cs Z mu (l.map fun n => V.int (i + (n : Nat))) (l.map fun n => U.int (i + (n : Nat))) := by
    intro l
    induction l with
    | nil => exact .nil
    | cons n l ih => exact .cons (.int _) ih
  exact go _
theorem snd_rngL1 (F : Fam K P) {p1 p2 pos2 : Pos} (hg : ∀ X, P X → L2.Gl X "range") (hm : ∀ X, P X → X.mg "range" = none) (hg2 : ∀ X, P X → L2.Gl X "list") (hm2 : ∀ X, P X → X.mg "list" = none) (hs : plainX a = true) (ha : SndE K cs P a (evE g ea)) :
    SndE K cs P (.Call (.Name "list" p1) [.Call (.Name "range" p2) [a] [] pos2] [] pos) (evE g (.rngL m (.rng1 ea))) := by
  obtain ⟨t, pr, s⟩ := ha
  refine ⟨_, fun X hX => pe_listRg (F.calm X hX) (hg2 X hX) (hm2 X hX) (prg_1 (hg X hX) (hm X hX) (pr X hX) (starE hs)) (starE rfl), fun sg H r mu C hid st Q w => ?_⟩
  simp only [evE, evI] at w
  refine s sg H r mu C hid st _ (w.bind.bind.mono (fun _ _ _ e => e) fun u C1 w1 v H1 mu1 k1 g1 e1 => ?_)
  cases u with
  | int n =>
    refine ⟨n, e1.int_inv, ?_⟩
    dsimp only at w1
    split at w1
    · rename_i hr
      replace w1 : Wp (EW sg H mu C hid) (if (rngU 0 n).length ≤ 1000000 then alloc m (.lst (rngU 0 n)) C1 else .no) _ := w1
      split at w1
      · rename_i hl
        have hl' : (n - 0).toNat ≤ 1000000 := by simpa [rngU] using hl
        have hr := of_decide_eq_true hr
        exact ⟨⟨hr.1, hr.2.1, hr.2.2.1, hr.2.2.2, by omega⟩, fun q hq => alloc_lst k1 g1 hq (rg_rel 0 n) w1⟩
      · exact w1.elim
    · exact w1.elim
  | _ => exact w1.elim
theorem snd_rngL2 (F : Fam K P) {p1 p2 pos2 : Pos} (hg : ∀ X, P X → L2.Gl X "range") (hm : ∀ X, P X → X.mg "range" = none) (hg2 : ∀ X, P X → L2.Gl X "list") (hm2 : ∀ X, P X → X.mg "list" = none) (hs : plainX a = true) (hs' : plainX b = true) (ha : SndE K cs P a (evE g ea)) (hb : SndE K cs P b (evE g eb)) :
    SndE K cs P (.Call (.Name "list" p1) [.Call (.Name "range" p2) [a, b] [] pos2] [] pos) (evE g (.rngL m (.rng2 ea eb))) := by
  obtain ⟨t, pr, s⟩ := ha
  obtain ⟨t', pr', s'⟩ := hb
  refine ⟨_, fun X hX => pe_listRg (F.calm X hX) (hg2 X hX) (hm2 X hX) (prg_2 (hg X hX) (hm X hX) (pr X hX) (pr' X hX) (by rw [starE hs]) (starE hs') (by rw [starE hs']; rfl)) (starE rfl), fun sg H r mu C hid st Q w => ?_⟩
  simp only [evE, evI] at w
  refine s sg H r mu C hid st _ (w.bind.bind.mono (fun _ _ _ e => e) fun u C1 w1 v H1 mu1 k1 g1 e1 => ?_)
  refine s' sg H1 r mu1 C1 hid (st.grow k1 g1) _ (w1.bind.mono (EW.dn g1) fun u' C2 w2 v' H2 mu2 k2 g2 e2 => ?_)
  match u, u', e1, e2, w2 with
  | .int i, .int n, e1, e2, w2 =>
    refine ⟨i, n, e1.int_inv, e2.int_inv, ?_⟩
    dsimp only at w2
    split at w2
    · rename_i hr
      replace w2 : Wp (EW sg H mu C hid) (if (rngU i n).length ≤ 1000000 then alloc m (.lst (rngU i n)) C2 else .no) _ := w2
      split at w2
      · rename_i hl
        have hl' : (n - i).toNat ≤ 1000000 := by simpa [rngU] using hl
        have hr := of_decide_eq_true hr
        exact ⟨⟨hr.1, hr.2.1, hr.2.2.1, hr.2.2.2, by omega⟩, fun q hq => alloc_lst k2 (g1.trans g2) hq (rg_rel i n) w2⟩
      · exact w2.elim
    · exact w2.elim
end
end Py
namespace Py
open PySem Spec PyProof.Rows L2
structure Tab where
  fns : List (Str × Nat × Nat)
  kws : List (Str × Nat × Nat × Nat × List Str × List Nat)
  glo : List (Str × Nat)
  bts : List Str
/-- the cells that may be set: a def's, or a block's own -/
def dOk : Option Scope → Str → Bool
  | none, _ => true
  | some s, x => s.names.lookup x == some .cell
/-- what is known of the contexts of a piece of syntax -/
structure Env1 (K : PySem.W.Frag) (cs : List ClsD) (g : Gm) (T : Tab) (N : List Str) (d : Option Scope) (sc : Scope) (P : Cx → Prop) : Prop where
  fam : Fam K P
  kind : sc.kind = .function
  esc : ∀ X, P X → X.env.scope = sc
  eN : ∀ X, P X → X.N = N
  fn : ∀ X, P X → ∀ x, dOk d x = true → X.fn x = true
  fns : ∀ e ∈ T.fns, KnF K cs P e.1 e.2.2 (g.cf e.2.1)
  kws : ∀ e ∈ T.kws, KnK K cs P e.1 e.2.2.1 (g.cf e.2.1) e.2.2.2.1 e.2.2.2.2.1 e.2.2.2.2.2
  glo : ∀ e ∈ T.glo, ∀ u, g.con e.2 = some u → ConOk K cs P e.1 u
  bts : ∀ x ∈ T.bts, ∀ X, P X → X.mg x = none
/-! ### parts of the check -/
def visB (sc : Scope) (x : Str) : Bool := decide (sc.names.lookup x = some .local) || decide (sc.names.lookup x = some .cell) || decide (sc.names.lookup x = some .free)
def locB (d : Option Scope) (sc : Scope) (x : Str) : Bool := decide (sc.names.lookup x = some .local) || (dOk d x && decide (sc.names.lookup x = some .cell))
/-- a block's scope as it is seen from sc -/
def relS (sc scope : Scope) : Scope := { scope with names := scope.names.map fun (n, k) => if (k == NameKind.free && sc.kind == .function && sc.names.lookup n == some .cell) then (n, NameKind.cell) else (n, k) }
def gloB (sc : Scope) (x : Str) : Bool := decide (sc.names.lookup x = some .globalImplicit)
def vC (N : List Str) (sc : Scope) (i : Nat) (x : Str) : Bool := decide (N[i]? = some x) && visB sc x && !(x == ("__debug__" : Str)) && !(x == ("__classdict__" : Str))
def lC (N : List Str) (d : Option Scope) (sc : Scope) (i : Nat) (x : Str) : Bool := decide (N[i]? = some x) && locB d sc x
def btC (T : Tab) (sc : Scope) (x : Str) : Bool := gloB sc x && T.bts.contains x
def gC (sc : Scope) (x : Str) : Bool := gloB sc x && !(x == ("__debug__" : Str))
def ownOf (N : List Str) (vs : List Nat) : List (Str × Nat) := vs.map fun i => ((N[i]?).getD "", i)
def blkC (N : List Str) (sc scope : Scope) (vs : List Nat) : Bool :=
  decide (scope.kind = .function) && scope.names.all (fun y => decide (scope.names.lookup y.1 = some y.2)) && vs.all (fun i => decide (i < N.length)) &&
  scope.names.all (fun y => !decide (y.2 = .free) || decide (sc.names.lookup y.1 = some .cell) || decide (sc.names.lookup y.1 = some .free)) &&
  scope.names.all (fun y => !(decide (y.2 = .local) || decide (y.2 = .cell)) || ((ownOf N vs).map (·.1)).contains y.1 || !N.contains y.1)
def noSet : Expr → Bool
  | .Set _ _ _ => false
  | _ => true
def plainT : Expr → Bool
  | .UnaryOp .Not _ _ => false
  | .BoolOp _ _ _ => false
  | .IfExp _ _ _ _ => false
  | .Compare _ _ _ _ => false
  | _ => true
section
variable {K : PySem.W.Frag} {cs : List ClsD} {g : Gm} {T : Tab} {N : List Str} {d : Option Scope} {sc scope : Scope} {P : Cx → Prop} {x : Str} {i : Nat} {a : Expr}
theorem visB_ok (F : Env1 K cs g T N d sc P) (h : visB sc x = true) : ∀ X, P X → Vis X.env.scope x := fun X hX => by
  rw [F.esc X hX]
  unfold visB at h
  simp only [Bool.or_eq_true, decide_eq_true_eq] at h
  rcases h with (h | h) | h
  · exact .inl h
  · exact .inr (.inl h)
  · exact .inr (.inr h)
theorem locB_ok (h : locB d sc x = true) : sc.names.lookup x = some .local ∨ (dOk d x = true ∧ sc.names.lookup x = some .cell) := by
  unfold locB at h
  simp only [Bool.or_eq_true, Bool.and_eq_true, decide_eq_true_eq] at h
  exact h
theorem gloB_ok (F : Env1 K cs g T N d sc P) (h : gloB sc x = true) : ∀ X, P X → L2.Gl X x := fun X hX => by
  have e : sc.names.lookup x = some .globalImplicit := of_decide_eq_true h
  show X.env.scope.names.lookup x = _
  rw [F.esc X hX, e]
theorem btC_ok (F : Env1 K cs g T N d sc P) (h : btC T sc x = true) : (∀ X, P X → L2.Gl X x) ∧ ∀ X, P X → X.mg x = none := by
  unfold btC at h
  rw [Bool.and_eq_true] at h
  exact ⟨gloB_ok F h.1, F.bts x (List.contains_iff_mem.mp h.2)⟩
theorem gC_ok (F : Env1 K cs g T N d sc P) (h : gC sc x = true) : (∀ X, P X → L2.Gl X x) ∧ (x == ("__debug__" : Str)) = false := by
  unfold gC at h
  rw [Bool.and_eq_true, Bool.not_eq_true'] at h
  exact ⟨gloB_ok F h.1, h.2⟩
theorem N_ok (F : Env1 K cs g T N d sc P) (h : N[i]? = some x) : ∀ X, P X → X.N[i]? = some x := fun X hX => by rw [F.eN X hX]; exact h
theorem vC_ok (F : Env1 K cs g T N d sc P) (h : vC N sc i x = true) : (∀ X, P X → X.N[i]? = some x) ∧ (∀ X, P X → Vis X.env.scope x) ∧ (x == ("__debug__" : Str)) = false ∧ (x == ("__classdict__" : Str)) = false := by
  unfold vC at h
  simp only [Bool.and_eq_true, Bool.not_eq_true', decide_eq_true_eq] at h
  obtain ⟨⟨⟨h1, h2⟩, h3⟩, h4⟩ := h
  exact ⟨N_ok F h1, visB_ok F h2, h3, h4⟩
theorem lC_ok (F : Env1 K cs g T N d sc P) (h : lC N d sc i x = true) : (∀ X, P X → X.N[i]? = some x) ∧ (∀ X, P X → L2.Loc X.env.scope x) ∧ ∀ X, P X → X.fn x = true ∨ X.env.scope.names.lookup x = some .local := by
  unfold lC at h
  simp only [Bool.and_eq_true, decide_eq_true_eq] at h
  refine ⟨N_ok F h.1, fun X hX => ?_, fun X hX => ?_⟩
  · rw [F.esc X hX]
    rcases locB_ok h.2 with q | ⟨_, q⟩
    · exact .inl q
    · exact .inr q
  · rw [F.esc X hX]
    rcases locB_ok h.2 with q | ⟨q, _⟩
    · exact .inr q
    · exact .inl (F.fn X hX x q)
theorem own_snd (vs : List Nat) : (ownOf N vs).map (·.2) = vs := by
  unfold ownOf
  rw [List.map_map]
  show vs.map (fun i => i) = vs
  exact List.map_id' vs
theorem blkC_ok (F : Env1 K cs g T N d sc P) {vs : List Nat} (h : blkC N sc scope vs = true) : (∀ X, P X → BlkOk X.N X.env.scope scope (ownOf N vs)) ∧ scope.kind = .function := by
  unfold blkC at h
  simp only [Bool.and_eq_true, decide_eq_true_eq, List.all_eq_true, Bool.or_eq_true, Bool.not_eq_true', decide_eq_false_iff_not, Bool.or_eq_false_iff] at h
  obtain ⟨⟨⟨⟨h1, h2⟩, h3⟩, h4⟩, h5⟩ := h
  refine ⟨fun X hX => ?_, h1⟩
  rw [F.esc X hX, F.eN X hX]
  refine ⟨h1, h2, fun p hp => ?_, fun y hy e => ?_, fun y hy e => ?_⟩
  · unfold ownOf at hp
    obtain ⟨i, hi, rfl⟩ := List.mem_map.mp hp
    have := h3 i hi
    simp [this]
  · rcases h4 y hy with (q | q) | q
    · exact absurd e q
    · exact .inl q
    · exact .inr q
  · rcases h5 y hy with (q | q) | q
    · rcases e with e | e
      · exact absurd e q.1
      · exact absurd e q.2
    · exact .inl (List.contains_iff_mem.mp q)
    · refine .inr fun z => ?_
      rw [List.contains_iff_mem.mpr z] at q
      cases q
theorem Env1.blk (F : Env1 K cs g T N d sc P) (hk : scope.kind = .function) : Env1 K cs g T N (some scope) (relS sc scope) (Blk P scope) where
  fam := F.fam.blk scope
  kind := hk
  esc := fun X' ⟨X, _, _, _, _, _, hX, e⟩ => by subst e; show relabel scope X.env = _; unfold relabel relS; rw [← F.esc X hX]; rfl
  eN := fun X' ⟨X, _, _, _, _, _, hX, e⟩ => by subst e; exact F.eN X hX
  fn := fun X' ⟨X, _, _, _, _, _, hX, e⟩ x h => by subst e; exact h
  fns := fun e he => by
    obtain ⟨k, fa, fd, ps, hl, hf⟩ := F.fns e he
    exact ⟨k, fa, fd, ps, hl, fun X' ⟨X, _, _, _, _, _, hX, q⟩ => by subst q; exact hf X hX⟩
  kws := fun e he => by
    obtain ⟨k, fa, fd, ps, hl, hf⟩ := F.kws e he
    exact ⟨k, fa, fd, ps, hl, fun X' ⟨X, _, _, _, _, _, hX, q⟩ => by subst q; exact hf X hX⟩
  glo := fun e he u hu => by
    obtain ⟨v, w, h1, h2, h3⟩ := F.glo e he u hu
    exact ⟨v, w, fun X' ⟨X, _, _, _, _, _, hX, q⟩ => by subst q; exact h1 X hX, h2, h3⟩
  bts := fun x hx X' ⟨X, _, _, _, _, _, hX, e⟩ => by subst e; exact F.bts x hx X hX
theorem set_ok (h : noSet a = true) : ∀ env x, foldedSetIterable a env x = pure x := fun env x => by cases a <;> first | rfl | cases h
theorem truth_ok (h : plainT a = true) : ∀ env whole, isTrue a env whole = (do let v ← whole; standAt a.pos; holding [v] (truthy v)) := fun env whole => by
  cases a with
  | UnaryOp op _ _ => cases op <;> first | rfl | cases h
  | _ => first | rfl | cases h
theorem asE {env : Env} {es : List Expr} (h : plainX a = true) : assignEach (a :: es) env = (false, assign a env) :: assignEach es env := by
  rw [assignEach]
  intro e p z
  subst z
  cases h
theorem asEs {env : Env} : ∀ {es : List Expr}, plainXs es = true → (assignEach es env).length = es.length ∧ (assignEach es env).findIdx? (·.1) = none
  | [], _ => by rw [assignEach]; exact ⟨rfl, rfl⟩
  | e :: es, h => by
    rw [plainXs, Bool.and_eq_true] at h
    obtain ⟨h1, h2⟩ := asEs (env := env) h.2
    rw [asE h.1]
    refine ⟨congrArg (· + 1) h1, ?_⟩
    rw [List.findIdx?_cons, h2]
    rfl
end
end Py
namespace Py
open PySem Spec PyProof.Rows L2
def isList1 : List Expr → Bool
  | [_] => true
  | _ => false
def isTT : T → Bool
  | .tt => true
  | _ => false
mutual
def chE (B : Tab) (N : List Str) (d : Option Scope) (sc : Scope) : E → Expr → Bool
  | .var i, x => (match x with | .Name n _ => vC N sc i n | _ => false)
  | .frz i, x => (match x with | .Name n _ => vC N sc i n | _ => false)
  | .cI i, x => (match x with | .Constant (.int j) _ _ => decide (i = j) | _ => false)
  | .cS s, x => (match x with | .Constant (.str y) _ _ => decide (s = y) | _ => false)
  | .cB b, x => (match x with | .Constant (.bool c) _ _ => decide (b = c) | _ => false)
  | .cN, x => (match x with | .Constant .none _ _ => true | _ => false)
  | .glo j, x => (match x with | .Name n _ => gC sc n && B.glo.contains (n, j) | _ => false)
  | .bin o a b, x => (match x with | .BinOp y op z _ => decide (op = bop o) && chE B N d sc a y && chE B N d sc b z | _ => false)
  | .neg a, x => (match x with | .UnaryOp .USub y _ => chE B N d sc a y | _ => false)
  | .cmp o a b, x => (match x with | .Compare y [op] [z] _ => decide (op = cop o) && !behindInMarks (cop o) z && chE B N d sc a y && chE B N d sc b z | _ => false)
  | .chain o p a b c, x => (match x with | .Compare y [op, oq] [z, w] _ => decide (op = cop o) && decide (oq = cop p) && !lastMarks [cop o, cop p] [z, w] && chE B N d sc a y && chE B N d sc b z && chE B N d sc c w | _ => false)
  | .and a b, x => (match x with | .BoolOp .And (y :: z :: rest) pos => chE B N d sc a y && (if rest.isEmpty = true then chE B N d sc b z else chE B N d sc b (.BoolOp .And (z :: rest) pos)) | _ => false)
  | .or a b, x => (match x with | .BoolOp .Or (y :: z :: rest) pos => chE B N d sc a y && (if rest.isEmpty = true then chE B N d sc b z else chE B N d sc b (.BoolOp .Or (z :: rest) pos)) | _ => false)
  | .not a, x => (match x with | .UnaryOp .Not y _ => chE B N d sc a y | _ => false)
  | .ife t a b, x => (match x with | .IfExp c y z _ => chT B N d sc t c && chE B N d sc a y && chE B N d sc b z | _ => false)
  | .tup es, x => (match x with | .Tuple ys _ _ => plainXs ys && chEs B N d sc es ys | _ => false)
  | .lst m es, x => (match x with | .List ys _ => plainXs ys && chEs B N d sc es ys | _ => false)
  | .dnew m t, x => (match x with | .Dict [] [] _ => true | _ => false)
  | .ix a i, x => (match x with | .Subscript y z _ => plainX z && chE B N d sc a y && chE B N d sc i z | _ => false)
  | .sl a lo hi, x => (match x with | .Subscript y (.Slice l h none _) _ => chE B N d sc a y && chO B N d sc lo l && chO B N d sc hi h | _ => false)
  | .rev a, x => (match x with | .Subscript y (.Slice none none (some (.UnaryOp .USub (.Constant (.int 1) _ _) _)) _) _ => chE B N d sc a y | _ => false)
  | .fld _ _, _ => false
  | .call j es, x => (match x with
    | .Call (.Name n _) [] [] _ => (match es with | .nil => gC sc n && B.fns.any (fun e => decide (e.1 = n) && decide (e.2.1 = j)) | _ => false)
    | .Call (.Name n _) (y :: ys) [] _ => gC sc n && B.fns.any (fun e => decide (e.1 = n) && decide (e.2.1 = j)) && plainXs (y :: ys) && chEs B N d sc es (y :: ys)
    | _ => false)
  | .callK j es ks p, x => (match x with
    | .Call (.Name n _) [] kws _ => (match es with | .nil => gC sc n && B.kws.any (fun e => decide (e.1 = n) && decide (e.2.1 = j) && decide (e.2.2.2.1 = 0) && kwsOk kws e.2.2.2.2.1 && decide (ks.len = e.2.2.2.2.1.length) && decide (e.2.2.2.2.2 = p)) && chKs B N d sc ks kws | _ => false)
    | .Call (.Name n _) (y :: ys) kws _ => gC sc n && B.kws.any (fun e => decide (e.1 = n) && decide (e.2.1 = j) && decide (e.2.2.2.1 = ys.length + 1) && kwsOk kws e.2.2.2.2.1 && decide (ks.len = e.2.2.2.2.1.length) && decide (e.2.2.2.2.2 = p)) && plainXs (y :: ys) && decide (es.len = ys.length + 1) && chEs B N d sc es (y :: ys) && chKs B N d sc ks kws
    | _ => false)
  | .mk _ _ _, _ => false
  | .bi b m es, x => (match x with | .Call (.Name n _) (y :: ys) [] _ => decide (n = biN b) && btC B sc n && plainX y && plainXs ys && chEs B N d sc es (y :: ys) | _ => false)
  | .isi a ts, x => (match x with
    | .Call (.Name n _) [y, .Name z pz] [] _ => (match ts with | [t] => decide (n = "isinstance") && btC B sc n && plainX y && tyArg [t] [.Name z pz] && btC B sc (tyN t) && chE B N d sc a y | _ => false)
    | .Call (.Name n _) [y, .Tuple zs _ _] [] _ => decide (n = "isinstance") && btC B sc n && plainX y && tyArg ts zs && ts.all (fun t => btC B sc (tyN t)) && decide (ts.length ≤ 100) && chE B N d sc a y
    | _ => false)
  | .rngL m it, x => (match it with
    | .rng1 a => (match x with | .Call (.Name n _) [.Call (.Name n2 _) [y] [] _] [] _ => decide (n = "list") && decide (n2 = "range") && btC B sc n && btC B sc n2 && plainX y && chE B N d sc a y | _ => false)
    | .rng2 a b => (match x with | .Call (.Name n _) [.Call (.Name n2 _) [y, z] [] _] [] _ => decide (n = "list") && decide (n2 = "range") && btC B sc n && btC B sc n2 && plainX y && plainX z && chE B N d sc a y && chE B N d sc b z | _ => false)
    | _ => false)
  | .me b a es, x => (match b with
    | .get1 => (match es with
      | .cons e .nil => (match x with | .Call (.Attribute o n apos) [y] [] pos => decide (n = "get") && noCall o && plainX y && (apos.endLine == pos.line) && chE B N d sc a o && chE B N d sc e y | _ => false)
      | _ => false)
    | .get2 => (match es with
      | .cons e (.cons f .nil) => (match x with | .Call (.Attribute o n apos) [y, z] [] pos => decide (n = "get") && noCall o && plainX y && plainX z && (apos.endLine == pos.line) && chE B N d sc a o && chE B N d sc e y && chE B N d sc f z | _ => false)
      | _ => false)
    | b => (match x with
      | .Call (.Attribute o n apos) [] [] pos => decide (b = .pop) && decide (n = "pop") && noCall o && (apos.endLine == pos.line) && chE B N d sc a o && (match es with | .nil => true | _ => false)
      | .Call (.Attribute o n apos) (y :: ys) [] pos => decide (n = meN b) && noCall o && plainXs (y :: ys) && (apos.endLine == pos.line) && decide ((y :: ys).length < 30) && chE B N d sc a o && chEs B N d sc es (y :: ys)
      | _ => false))
  | .comp m g it t e vs, x => (match x with | .ListComp y [⟨tg, i, ifs, 0⟩] scope _ => blkC N sc scope vs && chI B N d sc it tg i && chG B N (some scope) (relS sc scope) g tg && (match ifs with | [] => isTT t | [c] => chT B N (some scope) (relS sc scope) t c | _ => false) && chE B N (some scope) (relS sc scope) e y && (gsl g).all (fun i => vs.contains i) && noSet i | _ => false)
  | .comp2 m g it t g1 it1 t1 e vs vs1, x => (match x with
    | .ListComp y [⟨tg, i, ifs, 0⟩, ⟨tg1, i1, ifs1, 0⟩] scope _ => blkC N sc scope vs && vs1.all (fun i => vs.contains i) && chI B N d sc it tg i && chG B N (some scope) (relS sc scope) g tg && (match ifs with | [] => isTT t | [c] => chT B N (some scope) (relS sc scope) t c | _ => false) &&
      chI B N (some scope) (relS sc scope) it1 tg1 i1 && chG B N (some scope) (relS sc scope) g1 tg1 && (match ifs1 with | [] => isTT t1 | [c] => chT B N (some scope) (relS sc scope) t1 c | _ => false) && chE B N (some scope) (relS sc scope) e y && (gsl g).all (fun i => vs.contains i) && (gsl g1).all (fun i => vs1.contains i) && noSet i && noSet i1
    | _ => false)
def chEs (B : Tab) (N : List Str) (d : Option Scope) (sc : Scope) : Es → List Expr → Bool
  | .nil, xs => (match xs with | [] => true | _ => false)
  | .cons e es, xs => (match xs with | x :: xs => chE B N d sc e x && chEs B N d sc es xs | _ => false)
def chKs (B : Tab) (N : List Str) (d : Option Scope) (sc : Scope) : Es → List Keyword → Bool
  | .nil, xs => (match xs with | [] => true | _ => false)
  | .cons e es, xs => (match xs with | ⟨_, x, _⟩ :: xs => chE B N d sc e x && chKs B N d sc es xs | _ => false)
def chO (B : Tab) (N : List Str) (d : Option Scope) (sc : Scope) : Eo → Option Expr → Bool
  | .no, x => (match x with | none => true | _ => false)
  | .of e, x => (match x with | some y => chE B N d sc e y | _ => false)
def chT (B : Tab) (N : List Str) (d : Option Scope) (sc : Scope) : T → Expr → Bool
  | .tt, _ => false
  | .val _, _ => false
  | .cmp o a b, x => (match x with | .Compare y [op] [z] _ => decide (op = cop o) && !behindInMarks (cop o) z && chE B N d sc a y && chE B N d sc b z | _ => false)
  | .chain o p a b c, x => (match x with | .Compare y [op, oq] [z, w] _ => decide (op = cop o) && decide (oq = cop p) && !lastMarks [cop o, cop p] [z, w] && chE B N d sc a y && chE B N d sc b z && chE B N d sc c w | _ => false)
  | .and s t, x => (match x with | .BoolOp .And (y :: z :: rest) pos => chT B N d sc s y && (if rest.isEmpty = true then chT B N d sc t z else chT B N d sc t (.BoolOp .And (z :: rest) pos)) | _ => false)
  | .or s t, x => (match x with | .BoolOp .Or (y :: z :: rest) pos => chT B N d sc s y && (if rest.isEmpty = true then chT B N d sc t z else chT B N d sc t (.BoolOp .Or (z :: rest) pos)) | _ => false)
  | .not t, x => (match x with | .UnaryOp .Not y _ => chT B N d sc t y | _ => false)
  | .tru e, x => plainT x && chE B N d sc e x
def chI (B : Tab) (N : List Str) (d : Option Scope) (sc : Scope) : I → Expr → Expr → Bool
  | .seq e, _, x => chE B N d sc e x
  | .rng1 a, _, x => (match x with | .Call (.Name n _) [y] [] _ => decide (n = "range") && btC B sc n && plainX y && chE B N d sc a y | _ => false)
  | .rng2 a b, _, x => (match x with | .Call (.Name n _) [y, z] [] _ => decide (n = "range") && btC B sc n && plainX y && plainX z && chE B N d sc a y && chE B N d sc b z | _ => false)
  | .rng3 a b c, _, x => (match x with | .Call (.Name n _) [y, z, w] [] _ => decide (n = "range") && btC B sc n && plainX y && plainX z && plainX w && chE B N d sc a y && chE B N d sc b z && chE B N d sc c w | _ => false)
  | .enum e, tg, x => (match tg with
    | .Tuple _ _ _ => (match x with | .Call (.Name n _) [y] [] _ => decide (n = "enumerate") && btC B sc n && plainX y && chE B N d sc e y | _ => false)
    | _ => false)
  | .keys _, _, _ => false
  | .zip _ _, _, _ => false
def chG (B : Tab) (N : List Str) (d : Option Scope) (sc : Scope) : G → Expr → Bool
  | .nm i, x => (match x with | .Name n _ => lC N d sc i n | _ => false)
  | .sub o i, x => (match x with | .Subscript y z _ => plainX z && chE B N d sc o y && chE B N d sc i z | _ => false)
  | .fld _ _, _ => false
  | .tp gs, x => (match x with | .Tuple ys _ _ => plainXs ys && decide (gs.len = ys.length) && chGs B N d sc gs ys | _ => false)
def chGs (B : Tab) (N : List Str) (d : Option Scope) (sc : Scope) : Gs → List Expr → Bool
  | .nil, xs => (match xs with | [] => true | _ => false)
  | .cons g gs, xs => (match xs with | x :: xs => chG B N d sc g x && chGs B N d sc gs xs | _ => false)
end
/-! the check's rules, one by one -/
section
variable {B : Tab} {N : List Str} {d : Option Scope} {sc : Scope}
theorem q_chE_var (i : Nat) (x : Expr) : chE B N d sc (.var i) x = (match x with | .Name n _ => vC N sc i n | _ => false) := rfl
theorem q_chE_frz (i : Nat) (x : Expr) : chE B N d sc (.frz i) x = (match x with | .Name n _ => vC N sc i n | _ => false) := rfl
theorem q_chE_cI (i : Int) (x : Expr) : chE B N d sc (.cI i) x = (match x with | .Constant (.int j) _ _ => decide (i = j) | _ => false) := rfl
theorem q_chE_cS (s : Str) (x : Expr) : chE B N d sc (.cS s) x = (match x with | .Constant (.str y) _ _ => decide (s = y) | _ => false) := rfl
theorem q_chE_cB (b : Bool) (x : Expr) : chE B N d sc (.cB b) x = (match x with | .Constant (.bool c) _ _ => decide (b = c) | _ => false) := rfl
theorem q_chE_cN  (x : Expr) : chE B N d sc (.cN) x = (match x with | .Constant .none _ _ => true | _ => false) := rfl
theorem q_chE_glo (j : Nat) (x : Expr) : chE B N d sc (.glo j) x = (match x with | .Name n _ => gC sc n && B.glo.contains (n, j) | _ => false) := rfl
theorem q_chE_bin (o : BOp) (a : E) (b : E) (x : Expr) : chE B N d sc (.bin o a b) x = (match x with | .BinOp y op z _ => decide (op = bop o) && chE B N d sc a y && chE B N d sc b z | _ => false) := rfl
theorem q_chE_neg (a : E) (x : Expr) : chE B N d sc (.neg a) x = (match x with | .UnaryOp .USub y _ => chE B N d sc a y | _ => false) := rfl
theorem q_chE_cmp (o : COp) (a : E) (b : E) (x : Expr) : chE B N d sc (.cmp o a b) x = (match x with | .Compare y [op] [z] _ => decide (op = cop o) && !behindInMarks (cop o) z && chE B N d sc a y && chE B N d sc b z | _ => false) := rfl
theorem q_chE_chain (o : COp) (p : COp) (a : E) (b : E) (c : E) (x : Expr) : chE B N d sc (.chain o p a b c) x = (match x with | .Compare y [op, oq] [z, w] _ => decide (op = cop o) && decide (oq = cop p) && !lastMarks [cop o, cop p] [z, w] && chE B N d sc a y && chE B N d sc b z && chE B N d sc c w | _ => false) := rfl
theorem q_chE_and (a : E) (b : E) (x : Expr) : chE B N d sc (.and a b) x = (match x with | .BoolOp .And (y :: z :: rest) pos => chE B N d sc a y && (if rest.isEmpty = true then chE B N d sc b z else chE B N d sc b (.BoolOp .And (z :: rest) pos)) | _ => false) := rfl
theorem q_chE_or (a : E) (b : E) (x : Expr) : chE B N d sc (.or a b) x = (match x with | .BoolOp .Or (y :: z :: rest) pos => chE B N d sc a y && (if rest.isEmpty = true then chE B N d sc b z else chE B N d sc b (.BoolOp .Or (z :: rest) pos)) | _ => false) := rfl
theorem q_chE_not (a : E) (x : Expr) : chE B N d sc (.not a) x = (match x with | .UnaryOp .Not y _ => chE B N d sc a y | _ => false) := rfl
theorem q_chE_ife (t : T) (a : E) (b : E) (x : Expr) : chE B N d sc (.ife t a b) x = (match x with | .IfExp c y z _ => chT B N d sc t c && chE B N d sc a y && chE B N d sc b z | _ => false) := rfl
theorem q_chE_tup (es : Es) (x : Expr) : chE B N d sc (.tup es) x = (match x with | .Tuple ys _ _ => plainXs ys && chEs B N d sc es ys | _ => false) := rfl
theorem q_chE_lst (m : Bool) (es : Es) (x : Expr) : chE B N d sc (.lst m es) x = (match x with | .List ys _ => plainXs ys && chEs B N d sc es ys | _ => false) := rfl
theorem q_chE_dnew (m : Bool) (t : Bool) (x : Expr) : chE B N d sc (.dnew m t) x = (match x with | .Dict [] [] _ => true | _ => false) := rfl
theorem q_chE_ix (a : E) (i : E) (x : Expr) : chE B N d sc (.ix a i) x = (match x with | .Subscript y z _ => plainX z && chE B N d sc a y && chE B N d sc i z | _ => false) := rfl
theorem q_chE_sl (a : E) (lo : Eo) (hi : Eo) (x : Expr) : chE B N d sc (.sl a lo hi) x = (match x with | .Subscript y (.Slice l h none _) _ => chE B N d sc a y && chO B N d sc lo l && chO B N d sc hi h | _ => false) := rfl
theorem q_chE_rev (a : E) (x : Expr) : chE B N d sc (.rev a) x = (match x with | .Subscript y (.Slice none none (some (.UnaryOp .USub (.Constant (.int 1) _ _) _)) _) _ => chE B N d sc a y | _ => false) := rfl
theorem q_chE_fld (u0 : E) (u1 : Str) (x : Expr) : chE B N d sc (.fld u0 u1) x = false := rfl
theorem q_chE_call (j : Nat) (es : Es) (x : Expr) : chE B N d sc (.call j es) x = (match x with
    | .Call (.Name n _) [] [] _ => (match es with | .nil => gC sc n && B.fns.any (fun e => decide (e.1 = n) && decide (e.2.1 = j)) | _ => false)
    | .Call (.Name n _) (y :: ys) [] _ => gC sc n && B.fns.any (fun e => decide (e.1 = n) && decide (e.2.1 = j)) && plainXs (y :: ys) && chEs B N d sc es (y :: ys)
    | _ => false) := rfl
theorem q_chE_callK (j : Nat) (es : Es) (ks : Es) (p : List Nat) (x : Expr) : chE B N d sc (.callK j es ks p) x = (match x with
    | .Call (.Name n _) [] kws _ => (match es with | .nil => gC sc n && B.kws.any (fun e => decide (e.1 = n) && decide (e.2.1 = j) && decide (e.2.2.2.1 = 0) && kwsOk kws e.2.2.2.2.1 && decide (ks.len = e.2.2.2.2.1.length) && decide (e.2.2.2.2.2 = p)) && chKs B N d sc ks kws | _ => false)
    | .Call (.Name n _) (y :: ys) kws _ => gC sc n && B.kws.any (fun e => decide (e.1 = n) && decide (e.2.1 = j) && decide (e.2.2.2.1 = ys.length + 1) && kwsOk kws e.2.2.2.2.1 && decide (ks.len = e.2.2.2.2.1.length) && decide (e.2.2.2.2.2 = p)) && plainXs (y :: ys) && decide (es.len = ys.length + 1) && chEs B N d sc es (y :: ys) && chKs B N d sc ks kws
    | _ => false) := rfl
theorem q_chE_mk (u0 : Bool) (u1 : Nat) (u2 : Es) (x : Expr) : chE B N d sc (.mk u0 u1 u2) x = false := rfl
theorem q_chE_bi (b : Bi) (m : Bool) (es : Es) (x : Expr) : chE B N d sc (.bi b m es) x = (match x with | .Call (.Name n _) (y :: ys) [] _ => decide (n = biN b) && btC B sc n && plainX y && plainXs ys && chEs B N d sc es (y :: ys) | _ => false) := rfl
theorem q_chE_isi (a : E) (ts : List String) (x : Expr) : chE B N d sc (.isi a ts) x = (match x with
    | .Call (.Name n _) [y, .Name z pz] [] _ => (match ts with | [t] => decide (n = "isinstance") && btC B sc n && plainX y && tyArg [t] [.Name z pz] && btC B sc (tyN t) && chE B N d sc a y | _ => false)
    | .Call (.Name n _) [y, .Tuple zs _ _] [] _ => decide (n = "isinstance") && btC B sc n && plainX y && tyArg ts zs && ts.all (fun t => btC B sc (tyN t)) && decide (ts.length ≤ 100) && chE B N d sc a y
    | _ => false) := rfl
theorem q_chE_comp (m : Bool) (g : G) (it : I) (t : T) (e : E) (vs : List Nat) (x : Expr) : chE B N d sc (.comp m g it t e vs) x = (match x with | .ListComp y [⟨tg, i, ifs, 0⟩] scope _ => blkC N sc scope vs && chI B N d sc it tg i && chG B N (some scope) (relS sc scope) g tg && (match ifs with | [] => isTT t | [c] => chT B N (some scope) (relS sc scope) t c | _ => false) && chE B N (some scope) (relS sc scope) e y && (gsl g).all (fun i => vs.contains i) && noSet i | _ => false) := rfl
theorem q_chE_comp2 (m : Bool) (g : G) (it : I) (t : T) (g1 : G) (it1 : I) (t1 : T) (e : E) (vs : List Nat) (vs1 : List Nat) (x : Expr) : chE B N d sc (.comp2 m g it t g1 it1 t1 e vs vs1) x = (match x with
    | .ListComp y [⟨tg, i, ifs, 0⟩, ⟨tg1, i1, ifs1, 0⟩] scope _ => blkC N sc scope vs && vs1.all (fun i => vs.contains i) && chI B N d sc it tg i && chG B N (some scope) (relS sc scope) g tg && (match ifs with | [] => isTT t | [c] => chT B N (some scope) (relS sc scope) t c | _ => false) &&
      chI B N (some scope) (relS sc scope) it1 tg1 i1 && chG B N (some scope) (relS sc scope) g1 tg1 && (match ifs1 with | [] => isTT t1 | [c] => chT B N (some scope) (relS sc scope) t1 c | _ => false) && chE B N (some scope) (relS sc scope) e y && (gsl g).all (fun i => vs.contains i) && (gsl g1).all (fun i => vs1.contains i) && noSet i && noSet i1
    | _ => false) := rfl
theorem q_chEs_nil  (xs : List Expr) : chEs B N d sc (.nil) xs = (match xs with | [] => true | _ => false) := rfl
theorem q_chEs_cons (e : E) (es : Es) (xs : List Expr) : chEs B N d sc (.cons e es) xs = (match xs with | x :: xs => chE B N d sc e x && chEs B N d sc es xs | _ => false) := rfl
theorem q_chKs_nil  (xs : List Keyword) : chKs B N d sc (.nil) xs = (match xs with | [] => true | _ => false) := rfl
theorem q_chKs_cons (e : E) (es : Es) (xs : List Keyword) : chKs B N d sc (.cons e es) xs = (match xs with | ⟨_, x, _⟩ :: xs => chE B N d sc e x && chKs B N d sc es xs | _ => false) := rfl
theorem q_chO_no  (x : Option Expr) : chO B N d sc (.no) x = (match x with | none => true | _ => false) := rfl
theorem q_chO_of (e : E) (x : Option Expr) : chO B N d sc (.of e) x = (match x with | some y => chE B N d sc e y | _ => false) := rfl
theorem q_chT_tt  (x : Expr) : chT B N d sc (.tt) x = false := rfl
theorem q_chT_val (u0 : E) (x : Expr) : chT B N d sc (.val u0) x = false := rfl
theorem q_chT_cmp (o : COp) (a : E) (b : E) (x : Expr) : chT B N d sc (.cmp o a b) x = (match x with | .Compare y [op] [z] _ => decide (op = cop o) && !behindInMarks (cop o) z && chE B N d sc a y && chE B N d sc b z | _ => false) := rfl
theorem q_chT_chain (o : COp) (p : COp) (a : E) (b : E) (c : E) (x : Expr) : chT B N d sc (.chain o p a b c) x = (match x with | .Compare y [op, oq] [z, w] _ => decide (op = cop o) && decide (oq = cop p) && !lastMarks [cop o, cop p] [z, w] && chE B N d sc a y && chE B N d sc b z && chE B N d sc c w | _ => false) := rfl
theorem q_chT_and (s : T) (t : T) (x : Expr) : chT B N d sc (.and s t) x = (match x with | .BoolOp .And (y :: z :: rest) pos => chT B N d sc s y && (if rest.isEmpty = true then chT B N d sc t z else chT B N d sc t (.BoolOp .And (z :: rest) pos)) | _ => false) := rfl
theorem q_chT_or (s : T) (t : T) (x : Expr) : chT B N d sc (.or s t) x = (match x with | .BoolOp .Or (y :: z :: rest) pos => chT B N d sc s y && (if rest.isEmpty = true then chT B N d sc t z else chT B N d sc t (.BoolOp .Or (z :: rest) pos)) | _ => false) := rfl
theorem q_chT_not (t : T) (x : Expr) : chT B N d sc (.not t) x = (match x with | .UnaryOp .Not y _ => chT B N d sc t y | _ => false) := rfl
theorem q_chT_tru (e : E) (x : Expr) : chT B N d sc (.tru e) x = (plainT x && chE B N d sc e x) := rfl
theorem q_chI_seq (e : E) (tg x : Expr) : chI B N d sc (.seq e) tg x = chE B N d sc e x := rfl
theorem q_chI_rng1 (a : E) (tg x : Expr) : chI B N d sc (.rng1 a) tg x = (match x with | .Call (.Name n _) [y] [] _ => decide (n = "range") && btC B sc n && plainX y && chE B N d sc a y | _ => false) := rfl
theorem q_chI_rng2 (a : E) (b : E) (tg x : Expr) : chI B N d sc (.rng2 a b) tg x = (match x with | .Call (.Name n _) [y, z] [] _ => decide (n = "range") && btC B sc n && plainX y && plainX z && chE B N d sc a y && chE B N d sc b z | _ => false) := rfl
theorem q_chI_rng3 (a : E) (b : E) (c : E) (tg x : Expr) : chI B N d sc (.rng3 a b c) tg x = (match x with | .Call (.Name n _) [y, z, w] [] _ => decide (n = "range") && btC B sc n && plainX y && plainX z && plainX w && chE B N d sc a y && chE B N d sc b z && chE B N d sc c w | _ => false) := rfl
theorem q_chI_enum (e : E) (tg x : Expr) : chI B N d sc (.enum e) tg x = (match tg with
    | .Tuple _ _ _ => (match x with | .Call (.Name n _) [y] [] _ => decide (n = "enumerate") && btC B sc n && plainX y && chE B N d sc e y | _ => false)
    | _ => false) := rfl
theorem q_chI_keys (u0 : E) (tg x : Expr) : chI B N d sc (.keys u0) tg x = false := rfl
theorem q_chI_zip (u0 : E) (u1 : E) (tg x : Expr) : chI B N d sc (.zip u0 u1) tg x = false := rfl
theorem q_chG_nm (i : Nat) (x : Expr) : chG B N d sc (.nm i) x = (match x with | .Name n _ => lC N d sc i n | _ => false) := rfl
theorem q_chG_sub (o : E) (i : E) (x : Expr) : chG B N d sc (.sub o i) x = (match x with | .Subscript y z _ => plainX z && chE B N d sc o y && chE B N d sc i z | _ => false) := rfl
theorem q_chG_fld (u0 : E) (u1 : Str) (x : Expr) : chG B N d sc (.fld u0 u1) x = false := rfl
theorem q_chG_tp (gs : Gs) (x : Expr) : chG B N d sc (.tp gs) x = (match x with | .Tuple ys _ _ => plainXs ys && decide (gs.len = ys.length) && chGs B N d sc gs ys | _ => false) := rfl
theorem q_chGs_nil  (xs : List Expr) : chGs B N d sc (.nil) xs = (match xs with | [] => true | _ => false) := rfl
theorem q_chGs_cons (g : G) (gs : Gs) (xs : List Expr) : chGs B N d sc (.cons g gs) xs = (match xs with | x :: xs => chG B N d sc g x && chGs B N d sc gs xs | _ => false) := rfl
theorem q_rng1 (m : Bool) (a : E) (x : Expr) : chE B N d sc (.rngL m (.rng1 a)) x = (match x with | .Call (.Name n _) [.Call (.Name n2 _) [y] [] _] [] _ => decide (n = "list") && decide (n2 = "range") && btC B sc n && btC B sc n2 && plainX y && chE B N d sc a y | _ => false) := rfl
theorem q_rng2 (m : Bool) (a b : E) (x : Expr) : chE B N d sc (.rngL m (.rng2 a b)) x = (match x with | .Call (.Name n _) [.Call (.Name n2 _) [y, z] [] _] [] _ => decide (n = "list") && decide (n2 = "range") && btC B sc n && btC B sc n2 && plainX y && plainX z && chE B N d sc a y && chE B N d sc b z | _ => false) := rfl
theorem q_get1 (a e : E) (x : Expr) : chE B N d sc (.me .get1 a (.cons e .nil)) x = (match x with | .Call (.Attribute o n apos) [y] [] pos => decide (n = "get") && noCall o && plainX y && (apos.endLine == pos.line) && chE B N d sc a o && chE B N d sc e y | _ => false) := rfl
theorem q_get2 (a e f : E) (x : Expr) : chE B N d sc (.me .get2 a (.cons e (.cons f .nil))) x = (match x with | .Call (.Attribute o n apos) [y, z] [] pos => decide (n = "get") && noCall o && plainX y && plainX z && (apos.endLine == pos.line) && chE B N d sc a o && chE B N d sc e y && chE B N d sc f z | _ => false) := rfl
theorem q_append (a : E) (es : Es) (x : Expr) : chE B N d sc (.me .append a es) x = (match x with
      | .Call (.Attribute o n apos) [] [] pos => decide (Me.append = .pop) && decide (n = "pop") && noCall o && (apos.endLine == pos.line) && chE B N d sc a o && (match es with | .nil => true | _ => false)
      | .Call (.Attribute o n apos) (y :: ys) [] pos => decide (n = meN .append) && noCall o && plainXs (y :: ys) && (apos.endLine == pos.line) && decide ((y :: ys).length < 30) && chE B N d sc a o && chEs B N d sc es (y :: ys)
      | _ => false) := rfl
theorem q_pop (a : E) (es : Es) (x : Expr) : chE B N d sc (.me .pop a es) x = (match x with
      | .Call (.Attribute o n apos) [] [] pos => decide (Me.pop = .pop) && decide (n = "pop") && noCall o && (apos.endLine == pos.line) && chE B N d sc a o && (match es with | .nil => true | _ => false)
      | .Call (.Attribute o n apos) (y :: ys) [] pos => decide (n = meN .pop) && noCall o && plainXs (y :: ys) && (apos.endLine == pos.line) && decide ((y :: ys).length < 30) && chE B N d sc a o && chEs B N d sc es (y :: ys)
      | _ => false) := rfl
theorem q_popAt (a : E) (es : Es) (x : Expr) : chE B N d sc (.me .popAt a es) x = (match x with
      | .Call (.Attribute o n apos) [] [] pos => decide (Me.popAt = .pop) && decide (n = "pop") && noCall o && (apos.endLine == pos.line) && chE B N d sc a o && (match es with | .nil => true | _ => false)
      | .Call (.Attribute o n apos) (y :: ys) [] pos => decide (n = meN .popAt) && noCall o && plainXs (y :: ys) && (apos.endLine == pos.line) && decide ((y :: ys).length < 30) && chE B N d sc a o && chEs B N d sc es (y :: ys)
      | _ => false) := rfl
theorem q_index (a : E) (es : Es) (x : Expr) : chE B N d sc (.me .index a es) x = (match x with
      | .Call (.Attribute o n apos) [] [] pos => decide (Me.index = .pop) && decide (n = "pop") && noCall o && (apos.endLine == pos.line) && chE B N d sc a o && (match es with | .nil => true | _ => false)
      | .Call (.Attribute o n apos) (y :: ys) [] pos => decide (n = meN .index) && noCall o && plainXs (y :: ys) && (apos.endLine == pos.line) && decide ((y :: ys).length < 30) && chE B N d sc a o && chEs B N d sc es (y :: ys)
      | _ => false) := rfl
end
end Py
namespace Py
open PySem Spec PyProof.Rows L2
section
variable {K : PySem.W.Frag} {cs : List ClsD} {g : Gm} {B : Tab} {N : List Str}
theorem fns_ok {d : Option Scope} {sc : Scope} {P : Cx → Prop} (F : Env1 K cs g B N d sc P) {n : Str} {j : Nat} (h : B.fns.any (fun e => decide (e.1 = n) && decide (e.2.1 = j)) = true) : ∃ np, KnF K cs P n np (g.cf j) := by
  obtain ⟨e, he, q⟩ := List.any_eq_true.mp h
  simp only [Bool.and_eq_true, decide_eq_true_eq] at q
  have := F.fns e he
  rw [q.1, q.2] at this
  exact ⟨_, this⟩
theorem kws_ok {d : Option Scope} {sc : Scope} {P : Cx → Prop} (F : Env1 K cs g B N d sc P) {n : Str} {j m l : Nat} {kws : List Keyword} {p : List Nat} (h : B.kws.any (fun e => decide (e.1 = n) && decide (e.2.1 = j) && decide (e.2.2.2.1 = m) && kwsOk kws e.2.2.2.2.1 && decide (l = e.2.2.2.2.1.length) && decide (e.2.2.2.2.2 = p)) = true) :
    ∃ np ks, KnK K cs P n np (g.cf j) m ks p ∧ kwsOk kws ks = true ∧ l = ks.length := by
  obtain ⟨e, he, q⟩ := List.any_eq_true.mp h
  simp only [Bool.and_eq_true, decide_eq_true_eq] at q
  obtain ⟨⟨⟨⟨⟨q1, q2⟩, q3⟩, q4⟩, q5⟩, q6⟩ := q
  have := F.kws e he
  rw [q1, q2, q3, q6] at this
  exact ⟨_, _, this, q4, q5⟩
theorem glo_ok {d : Option Scope} {sc : Scope} {P : Cx → Prop} (F : Env1 K cs g B N d sc P) {n : Str} {j : Nat} (h : B.glo.contains (n, j) = true) : ∀ u, g.con j = some u → ConOk K cs P n u := F.glo (n, j) (List.contains_iff_mem.mp h)
theorem all_in {ss vs : List Nat} (h : ss.all (fun i => vs.contains i) = true) : ∀ i ∈ ss, i ∈ vs := fun i hi => List.contains_iff_mem.mp (List.all_eq_true.mp h i hi)
/-- a test, or a test that is a part of one -/
def SndTW (K : PySem.W.Frag) (cs : List ClsD) (P : Cx → Prop) (x : Expr) (f : Sl → List Cl → Rs Bool) : Prop := SndT K cs P x f ∧ ∀ op vs pos, x = .BoolOp op vs pos → SndW K cs P x f
theorem SndTW.of {P : Cx → Prop} {x : Expr} {f : Sl → List Cl → Rs Bool} (h : SndT K cs P x f) (hx : ∀ op vs pos, x ≠ .BoolOp op vs pos) : SndTW K cs P x f := ⟨h, fun op vs pos e => absurd e (hx op vs pos)⟩
theorem SndTW.w {P : Cx → Prop} {op : BoolOp} {vs : List Expr} {pos : Pos} {f : Sl → List Cl → Rs Bool} (h : SndW K cs P (.BoolOp op vs pos) f) : SndTW K cs P (.BoolOp op vs pos) f := ⟨h.t, fun _ _ _ _ => h⟩
theorem plainT_no {a : Expr} (h : plainT a = true) : ∀ op vs pos, a ≠ .BoolOp op vs pos := fun op vs pos e => by
  subst e
  cases h
theorem meGo {d : Option Scope} {sc : Scope} {P : Cx → Prop} (F : Env1 K cs g B N d sc P) {b : Me} {a : E} {es : Es} {x : Expr} (hb : b ≠ .get1 ∧ b ≠ .get2) (iha : ∀ o, chE B N d sc a o = true → SndE K cs P o (evE g a)) (ihs : ∀ ys, plainXs ys = true → chEs B N d sc es ys = true → SndA K cs P ys (evEs g es))
    (h : (match x with
      | .Call (.Attribute o n apos) [] [] pos => decide (b = .pop) && decide (n = "pop") && noCall o && (apos.endLine == pos.line) && chE B N d sc a o && (match (generalizing := false) es with | .nil => true | _ => false)
      | .Call (.Attribute o n apos) (y :: ys) [] pos => decide (n = meN b) && noCall o && plainXs (y :: ys) && (apos.endLine == pos.line) && decide ((y :: ys).length < 30) && chE B N d sc a o && chEs B N d sc es (y :: ys)
      | _ => false) = true) : SndE K cs P x (evE g (.me b a es)) := by
  split at h
  · simp only [Bool.and_eq_true, decide_eq_true_eq] at h
    obtain ⟨⟨⟨⟨⟨h1, h2⟩, h3⟩, h4⟩, h5⟩, h6⟩ := h
    split at h6
    · subst h1 h2
      exact snd_pop F.fam h3 h4 (iha _ h5)
    · cases h6
  · simp only [Bool.and_eq_true, decide_eq_true_eq] at h
    obtain ⟨⟨⟨⟨⟨⟨h1, h2⟩, h3⟩, h4⟩, h5⟩, h6⟩, h7⟩ := h
    subst h1
    exact snd_meL F.fam hb h2 h3 h4 h5 (iha _ h6) (ihs _ h3 h7)
  · cases h
mutual
theorem chE_ok : ∀ (e : E) {d : Option Scope} {sc : Scope} {P : Cx → Prop} (_ : Env1 K cs g B N d sc P) {x : Expr}, chE B N d sc e x = true → SndE K cs P x (evE g e)
  | .var i, d, sc, P, F, x, h => by
    rw [q_chE_var] at h
    split at h
    · obtain ⟨h1, h2, h3, h4⟩ := vC_ok F h
      exact snd_var h1 h2 h3 h4 g
    · cases h
  | .frz i, d, sc, P, F, x, h => by
    rw [q_chE_frz] at h
    split at h
    · obtain ⟨h1, h2, h3, h4⟩ := vC_ok F h
      exact snd_frz h1 h2 h3 h4 g
    · cases h
  | .cI i, d, sc, P, F, x, h => by
    rw [q_chE_cI] at h
    split at h
    · obtain rfl := of_decide_eq_true h
      exact snd_cI g
    · cases h
  | .cS i, d, sc, P, F, x, h => by
    rw [q_chE_cS] at h
    split at h
    · obtain rfl := of_decide_eq_true h
      exact snd_cS g
    · cases h
  | .cB i, d, sc, P, F, x, h => by
    rw [q_chE_cB] at h
    split at h
    · obtain rfl := of_decide_eq_true h
      exact snd_cB g
    · cases h
  | .cN, d, sc, P, F, x, h => by
    rw [q_chE_cN] at h
    split at h
    · exact snd_cN g
    · cases h
  | .glo j, d, sc, P, F, x, h => by
    rw [q_chE_glo] at h
    split at h
    · simp only [Bool.and_eq_true] at h
      exact snd_glo (gC_ok F h.1).1 (gC_ok F h.1).2 (glo_ok F h.2)
    · cases h
  | .bin o a b, d, sc, P, F, x, h => by
    rw [q_chE_bin] at h
    split at h
    · simp only [Bool.and_eq_true, decide_eq_true_eq] at h
      obtain ⟨⟨h1, h2⟩, h3⟩ := h
      subst h1
      exact snd_bin F.fam (chE_ok a F h2) (chE_ok b F h3)
    · cases h
  | .neg a, d, sc, P, F, x, h => by
    rw [q_chE_neg] at h
    split at h
    · exact snd_neg (chE_ok a F h)
    · cases h
  | .cmp o a b, d, sc, P, F, x, h => by
    rw [q_chE_cmp] at h
    split at h
    · simp only [Bool.and_eq_true, decide_eq_true_eq, Bool.not_eq_true'] at h
      obtain ⟨⟨⟨h1, h2⟩, h3⟩, h4⟩ := h
      subst h1
      exact snd_cmp F.fam (chE_ok a F h3) (chE_ok b F h4) h2
    · cases h
  | .chain o p a b c, d, sc, P, F, x, h => by
    rw [q_chE_chain] at h
    split at h
    · simp only [Bool.and_eq_true, decide_eq_true_eq, Bool.not_eq_true'] at h
      obtain ⟨⟨⟨⟨⟨h1, h2⟩, h3⟩, h4⟩, h5⟩, h6⟩ := h
      subst h1 h2
      exact snd_chain F.fam (chE_ok a F h4) (chE_ok b F h5) (chE_ok c F h6) h3
    · cases h
  | .and a b, d, sc, P, F, x, h => by
    rw [q_chE_and] at h
    split at h
    · rename_i y z rest pos
      simp only [Bool.and_eq_true] at h
      obtain ⟨h1, h2⟩ := h
      split at h2
      · rename_i hr
        obtain rfl := List.isEmpty_iff.mp hr
        exact snd_and (chE_ok a F h1) (snd_one (chE_ok b F h2))
      · exact snd_and (chE_ok a F h1) (chE_ok b F h2)
    · cases h
  | .or a b, d, sc, P, F, x, h => by
    rw [q_chE_or] at h
    split at h
    · rename_i y z rest pos
      simp only [Bool.and_eq_true] at h
      obtain ⟨h1, h2⟩ := h
      split at h2
      · rename_i hr
        obtain rfl := List.isEmpty_iff.mp hr
        exact snd_or (chE_ok a F h1) (snd_one (chE_ok b F h2))
      · exact snd_or (chE_ok a F h1) (chE_ok b F h2)
    · cases h
  | .not a, d, sc, P, F, x, h => by
    rw [q_chE_not] at h
    split at h
    · exact snd_not (chE_ok a F h)
    · cases h
  | .ife t a b, d, sc, P, F, x, h => by
    rw [q_chE_ife] at h
    split at h
    · simp only [Bool.and_eq_true] at h
      exact snd_ife (chT_ok t F h.1.1).1 (chE_ok a F h.1.2) (chE_ok b F h.2)
    · cases h
  | .tup es, d, sc, P, F, x, h => by
    rw [q_chE_tup] at h
    split at h
    · simp only [Bool.and_eq_true] at h
      exact snd_tup (chEs_ok es F h.1 h.2)
    · cases h
  | .lst m es, d, sc, P, F, x, h => by
    rw [q_chE_lst] at h
    split at h
    · simp only [Bool.and_eq_true] at h
      exact snd_lst (chEs_ok es F h.1 h.2)
    · cases h
  | .dnew m t, d, sc, P, F, x, h => by
    rw [q_chE_dnew] at h
    split at h
    · exact snd_dnew
    · cases h
  | .ix a i, d, sc, P, F, x, h => by
    rw [q_chE_ix] at h
    split at h
    · simp only [Bool.and_eq_true] at h
      exact snd_ix F.fam (chE_ok a F h.1.2) (chE_ok i F h.2) (plainIx h.1.1)
    · cases h
  | .sl a lo hi, d, sc, P, F, x, h => by
    rw [q_chE_sl] at h
    split at h
    · simp only [Bool.and_eq_true] at h
      exact snd_sl F.fam (chE_ok a F h.1.1) (chO_ok lo F h.1.2) (chO_ok hi F h.2)
    · cases h
  | .rev a, d, sc, P, F, x, h => by
    rw [q_chE_rev] at h
    split at h
    · exact snd_rev F.fam (chE_ok a F h)
    · cases h
  | .fld _ _, d, sc, P, F, x, h => by
    rw [q_chE_fld] at h
    cases h
  | .call j es, d, sc, P, F, x, h => by
    rw [q_chE_call] at h
    split at h
    · split at h
      · simp only [Bool.and_eq_true] at h
        obtain ⟨np, hk⟩ := fns_ok F h.2
        exact snd_call0 hk (gC_ok F h.1).1 (gC_ok F h.1).2
      · cases h
    · simp only [Bool.and_eq_true] at h
      obtain ⟨⟨⟨h1, h2⟩, h3⟩, h4⟩ := h
      obtain ⟨np, hk⟩ := fns_ok F h2
      have h3' := h3
      rw [plainXs, Bool.and_eq_true] at h3'
      exact snd_call hk (gC_ok F h1).1 (gC_ok F h1).2 h3'.1 h3'.2 (chEs_ok es F h3 h4)
    · cases h
  | .callK j es ks p, d, sc, P, F, x, h => by
    rw [q_chE_callK] at h
    split at h
    · split at h
      · simp only [Bool.and_eq_true] at h
        obtain ⟨⟨h1, h2⟩, h3⟩ := h
        obtain ⟨np, ks', hk, q1, q2⟩ := kws_ok F h2
        exact snd_callK0 hk (gC_ok F h1).1 (gC_ok F h1).2 q1 q2 (chKs_ok ks F h3)
      · cases h
    · simp only [Bool.and_eq_true, decide_eq_true_eq] at h
      obtain ⟨⟨⟨⟨⟨h1, h2⟩, h3⟩, h4⟩, h5⟩, h6⟩ := h
      obtain ⟨np, ks', hk, q1, q2⟩ := kws_ok F h2
      have h3' := h3
      rw [plainXs, Bool.and_eq_true] at h3'
      exact snd_callK hk (gC_ok F h1).1 (gC_ok F h1).2 h3'.1 h3'.2 q1 h4 q2 (chEs_ok es F h3 h5) (chKs_ok ks F h6)
    · cases h
  | .mk _ _ _, d, sc, P, F, x, h => by
    rw [q_chE_mk] at h
    cases h
  | .bi b m es, d, sc, P, F, x, h => by
    rw [q_chE_bi] at h
    split at h
    · simp only [Bool.and_eq_true, decide_eq_true_eq] at h
      obtain ⟨⟨⟨⟨h1, h2⟩, h3⟩, h4⟩, h5⟩ := h
      subst h1
      exact snd_bi F.fam (btC_ok F h2).1 (btC_ok F h2).2 h3 h4 (chEs_ok es F (by rw [plainXs, h3, h4]; rfl) h5)
    · cases h
  | .isi a ts, d, sc, P, F, x, h => by
    rw [q_chE_isi] at h
    split at h
    · split at h
      · simp only [Bool.and_eq_true, decide_eq_true_eq] at h
        obtain ⟨⟨⟨⟨⟨h1, h2⟩, h3⟩, h4⟩, h5⟩, h6⟩ := h
        subst h1
        exact snd_isi1 (btC_ok F h2).1 (btC_ok F h2).2 h3 (chE_ok a F h6) F.fam h4 fun t' ht X hX => by
          rw [List.mem_singleton.mp ht]
          exact ⟨(btC_ok F h5).1 X hX, (btC_ok F h5).2 X hX⟩
      · cases h
    · simp only [Bool.and_eq_true, decide_eq_true_eq] at h
      obtain ⟨⟨⟨⟨⟨⟨h1, h2⟩, h3⟩, h4⟩, h5⟩, h6⟩, h7⟩ := h
      subst h1
      exact snd_isiT (btC_ok F h2).1 (btC_ok F h2).2 h3 (chE_ok a F h7) F.fam h4 (fun t' ht X hX =>
        have q := List.all_eq_true.mp h5 t' ht
        ⟨(btC_ok F q).1 X hX, (btC_ok F q).2 X hX⟩) h6
    · cases h
  | .rngL m (.rng1 a), d, sc, P, F, x, h => by
    rw [q_rng1] at h
    split at h
    · simp only [Bool.and_eq_true, decide_eq_true_eq] at h
      obtain ⟨⟨⟨⟨⟨h1, h2⟩, h3⟩, h4⟩, h5⟩, h6⟩ := h
      subst h1 h2
      exact snd_rngL1 F.fam (btC_ok F h4).1 (btC_ok F h4).2 (btC_ok F h3).1 (btC_ok F h3).2 h5 (chE_ok a F h6)
    · cases h
  | .rngL m (.rng2 a b), d, sc, P, F, x, h => by
    rw [q_rng2] at h
    split at h
    · simp only [Bool.and_eq_true, decide_eq_true_eq] at h
      obtain ⟨⟨⟨⟨⟨⟨⟨h1, h2⟩, h3⟩, h4⟩, h5⟩, h6⟩, h7⟩, h8⟩ := h
      subst h1 h2
      exact snd_rngL2 F.fam (btC_ok F h4).1 (btC_ok F h4).2 (btC_ok F h3).1 (btC_ok F h3).2 h5 h6 (chE_ok a F h7) (chE_ok b F h8)
    · cases h
  | .rngL m (.seq _), d, sc, P, F, x, h => by cases h
  | .rngL m (.rng3 _ _ _), d, sc, P, F, x, h => by cases h
  | .rngL m (.enum _), d, sc, P, F, x, h => by cases h
  | .rngL m (.keys _), d, sc, P, F, x, h => by cases h
  | .rngL m (.zip _ _), d, sc, P, F, x, h => by cases h
  | .me .get1 a (.cons e .nil), d, sc, P, F, x, h => by
    rw [q_get1] at h
    split at h
    · simp only [Bool.and_eq_true, decide_eq_true_eq] at h
      obtain ⟨⟨⟨⟨⟨h1, h2⟩, h3⟩, h4⟩, h5⟩, h6⟩ := h
      subst h1
      exact snd_get1 F.fam h2 h3 h4 (chE_ok a F h5) (chE_ok e F h6)
    · cases h
  | .me .get1 a .nil, d, sc, P, F, x, h => by cases h
  | .me .get1 a (.cons _ (.cons _ _)), d, sc, P, F, x, h => by cases h
  | .me .get2 a (.cons e (.cons f .nil)), d, sc, P, F, x, h => by
    rw [q_get2] at h
    split at h
    · simp only [Bool.and_eq_true, decide_eq_true_eq] at h
      obtain ⟨⟨⟨⟨⟨⟨⟨h1, h2⟩, h3⟩, h4⟩, h5⟩, h6⟩, h7⟩, h8⟩ := h
      subst h1
      exact snd_get2 F.fam h2 h3 h4 h5 (chE_ok a F h6) (chE_ok e F h7) (chE_ok f F h8)
    · cases h
  | .me .get2 a .nil, d, sc, P, F, x, h => by cases h
  | .me .get2 a (.cons _ .nil), d, sc, P, F, x, h => by cases h
  | .me .get2 a (.cons _ (.cons _ (.cons _ _))), d, sc, P, F, x, h => by cases h
  | .me .append a es, d, sc, P, F, x, h => by
    rw [q_append] at h
    exact meGo F ⟨by decide, by decide⟩ (fun o q => chE_ok a F q) (fun ys p q => chEs_ok es F p q) h
  | .me .pop a es, d, sc, P, F, x, h => by
    rw [q_pop] at h
    exact meGo F ⟨by decide, by decide⟩ (fun o q => chE_ok a F q) (fun ys p q => chEs_ok es F p q) h
  | .me .popAt a es, d, sc, P, F, x, h => by
    rw [q_popAt] at h
    exact meGo F ⟨by decide, by decide⟩ (fun o q => chE_ok a F q) (fun ys p q => chEs_ok es F p q) h
  | .me .index a es, d, sc, P, F, x, h => by
    rw [q_index] at h
    exact meGo F ⟨by decide, by decide⟩ (fun o q => chE_ok a F q) (fun ys p q => chEs_ok es F p q) h
  | .comp m gg it t e vs, d, sc, P, F, x, h => by
    rw [q_chE_comp] at h
    split at h
    · rename_i y tg ii ifs scope pos
      simp only [Bool.and_eq_true] at h
      obtain ⟨⟨⟨⟨⟨⟨h1, h2⟩, h3⟩, h4⟩, h5⟩, h6⟩, h7⟩ := h
      obtain ⟨hb, hk⟩ := blkC_ok F h1
      have F' := F.blk hk
      have hc : SndC K cs (Blk P scope) ifs (evT g t) := by
        split at h4
        · cases t with
          | tt => exact sndC_nil
          | _ => cases h4
        · exact sndC_one (chT_ok t F' h4).1
        · cases h4
      have := (snd_lc F.fam hb (chI_ok it F h2) (chG_ok gg F' h3) hc (chE_ok e F' h5) (by rw [own_snd]; exact all_in h6) (set_ok h7) (m := m) (pos := pos)).1
      rw [own_snd] at this
      exact this
    · cases h
  | .comp2 m gg it t g1 it1 t1 e vs vs1, d, sc, P, F, x, h => by
    rw [q_chE_comp2] at h
    split at h
    · rename_i y tg ii ifs tg1 i1 ifs1 scope pos
      simp only [Bool.and_eq_true] at h
      obtain ⟨⟨⟨⟨⟨⟨⟨⟨⟨⟨⟨⟨h1, h0⟩, h2⟩, h3⟩, h4⟩, h2'⟩, h3'⟩, h4'⟩, h5⟩, h6⟩, h6'⟩, h7⟩, h7'⟩ := h
      obtain ⟨hb, hk⟩ := blkC_ok F h1
      have F' := F.blk hk
      have hc : SndC K cs (Blk P scope) ifs (evT g t) := by
        split at h4
        · cases t with
          | tt => exact sndC_nil
          | _ => cases h4
        · exact sndC_one (chT_ok t F' h4).1
        · cases h4
      have hc' : SndC K cs (Blk P scope) ifs1 (evT g t1) := by
        split at h4'
        · cases t1 with
          | tt => exact sndC_nil
          | _ => cases h4'
        · exact sndC_one (chT_ok t1 F' h4').1
        · cases h4'
      have := (snd_lc2 F.fam hb (by rw [own_snd]; exact all_in h0) (chI_ok it F h2) (chG_ok gg F' h3) hc (chI_ok it1 F' h2') (chG_ok g1 F' h3') hc' (chE_ok e F' h5) (by rw [own_snd]; exact all_in h6) (all_in h6') (set_ok h7) (set_ok h7') (m := m) (pos := pos)).1
      rw [own_snd] at this
      exact this
    · cases h
termination_by structural e => e
theorem chEs_ok : ∀ (e : Es) {d : Option Scope} {sc : Scope} {P : Cx → Prop} (_ : Env1 K cs g B N d sc P) {x : List Expr}, plainXs x = true → chEs B N d sc e x = true → SndA K cs P x (evEs g e)
  | .nil, d, sc, P, F, x, hp, h => by
    rw [q_chEs_nil] at h
    split at h
    · exact sndA_nil
    · cases h
  | .cons e es, d, sc, P, F, x, hp, h => by
    rw [q_chEs_cons] at h
    split at h
    · rw [Bool.and_eq_true] at h
      rw [plainXs, Bool.and_eq_true] at hp
      exact sndA_cons (chE_ok e F h.1) (chEs_ok es F hp.2 h.2) fun X _ => starE hp.1
    · cases h
termination_by structural e => e
theorem chKs_ok : ∀ (e : Es) {d : Option Scope} {sc : Scope} {P : Cx → Prop} (_ : Env1 K cs g B N d sc P) {x : List Keyword}, chKs B N d sc e x = true → SndK K cs P x (evEs g e)
  | .nil, d, sc, P, F, x, h => by
    rw [q_chKs_nil] at h
    split at h
    · exact sndK_nil
    · cases h
  | .cons e es, d, sc, P, F, x, h => by
    rw [q_chKs_cons] at h
    split at h
    · rw [Bool.and_eq_true] at h
      exact sndK_cons (chE_ok e F h.1) (chKs_ok es F h.2)
    · cases h
termination_by structural e => e
theorem chO_ok : ∀ (e : Eo) {d : Option Scope} {sc : Scope} {P : Cx → Prop} (_ : Env1 K cs g B N d sc P) {x : Option Expr}, chO B N d sc e x = true → SndO K cs P x (evO g e)
  | .no, d, sc, P, F, x, h => by
    rw [q_chO_no] at h
    split at h
    · exact sndO_no
    · cases h
  | .of e, d, sc, P, F, x, h => by
    rw [q_chO_of] at h
    split at h
    · exact sndO_of (chE_ok e F h)
    · cases h
termination_by structural e => e
theorem chT_ok : ∀ (t : T) {d : Option Scope} {sc : Scope} {P : Cx → Prop} (_ : Env1 K cs g B N d sc P) {x : Expr}, chT B N d sc t x = true → SndTW K cs P x (evT g t)
  | .tt, d, sc, P, F, x, h => by rw [q_chT_tt] at h; cases h
  | .val _, d, sc, P, F, x, h => by rw [q_chT_val] at h; cases h
  | .cmp o a b, d, sc, P, F, x, h => by
    rw [q_chT_cmp] at h
    split at h
    · simp only [Bool.and_eq_true, decide_eq_true_eq, Bool.not_eq_true'] at h
      obtain ⟨⟨⟨h1, h2⟩, h3⟩, h4⟩ := h
      subst h1
      exact .of (sndT_cmp F.fam (chE_ok a F h3) (chE_ok b F h4) h2) fun _ _ _ z => nomatch z
    · cases h
  | .chain o p a b c, d, sc, P, F, x, h => by
    rw [q_chT_chain] at h
    split at h
    · simp only [Bool.and_eq_true, decide_eq_true_eq, Bool.not_eq_true'] at h
      obtain ⟨⟨⟨⟨⟨h1, h2⟩, h3⟩, h4⟩, h5⟩, h6⟩ := h
      subst h1 h2
      exact .of (sndT_chain F.fam (chE_ok a F h4) (chE_ok b F h5) (chE_ok c F h6) h3) fun _ _ _ z => nomatch z
    · cases h
  | .and s t, d, sc, P, F, x, h => by
    rw [q_chT_and] at h
    split at h
    · rename_i y z rest pos
      simp only [Bool.and_eq_true] at h
      obtain ⟨h1, h2⟩ := h
      split at h2
      · rename_i hr
        obtain rfl := List.isEmpty_iff.mp hr
        exact .w (sndW_and (chT_ok s F h1).1 (sndW_and1 (chT_ok t F h2).1))
      · exact .w (sndW_and (chT_ok s F h1).1 ((chT_ok t F h2).2 _ _ _ rfl))
    · cases h
  | .or s t, d, sc, P, F, x, h => by
    rw [q_chT_or] at h
    split at h
    · rename_i y z rest pos
      simp only [Bool.and_eq_true] at h
      obtain ⟨h1, h2⟩ := h
      split at h2
      · rename_i hr
        obtain rfl := List.isEmpty_iff.mp hr
        exact .w (sndW_or (chT_ok s F h1).1 (sndW_or1 (chT_ok t F h2).1))
      · exact .w (sndW_or (chT_ok s F h1).1 ((chT_ok t F h2).2 _ _ _ rfl))
    · cases h
  | .not t, d, sc, P, F, x, h => by
    rw [q_chT_not] at h
    split at h
    · exact .of (sndT_not (chT_ok t F h).1) fun _ _ _ z => nomatch z
    · cases h
  | .tru e, d, sc, P, F, x, h => by
    rw [q_chT_tru] at h
    rw [Bool.and_eq_true] at h
    exact .of (sndT_tru (chE_ok e F h.2) F.fam fun X _ => truth_ok h.1 X.env) (plainT_no h.1)
termination_by structural e => e
theorem chI_ok : ∀ (t : I) {d : Option Scope} {sc : Scope} {P : Cx → Prop} (_ : Env1 K cs g B N d sc P) {tg x : Expr}, chI B N d sc t tg x = true → SndI K cs P tg x (evI g t)
  | .seq e, d, sc, P, F, tg, x, h => by
    rw [q_chI_seq] at h
    exact sndI_seq F.fam (chE_ok e F h)
  | .rng1 a, d, sc, P, F, tg, x, h => by
    rw [q_chI_rng1] at h
    split at h
    · simp only [Bool.and_eq_true, decide_eq_true_eq] at h
      obtain ⟨⟨⟨h1, h2⟩, h3⟩, h4⟩ := h
      subst h1
      exact sndI_rng1 (btC_ok F h2).1 (btC_ok F h2).2 h3 (chE_ok a F h4)
    · cases h
  | .rng2 a b, d, sc, P, F, tg, x, h => by
    rw [q_chI_rng2] at h
    split at h
    · simp only [Bool.and_eq_true, decide_eq_true_eq] at h
      obtain ⟨⟨⟨⟨⟨h1, h2⟩, h3⟩, h3'⟩, h4⟩, h5⟩ := h
      subst h1
      exact sndI_rng2 (btC_ok F h2).1 (btC_ok F h2).2 h3 h3' (chE_ok a F h4) (chE_ok b F h5)
    · cases h
  | .rng3 a b c, d, sc, P, F, tg, x, h => by
    rw [q_chI_rng3] at h
    split at h
    · simp only [Bool.and_eq_true, decide_eq_true_eq] at h
      obtain ⟨⟨⟨⟨⟨⟨⟨h1, h2⟩, h3⟩, h3'⟩, h3''⟩, h4⟩, h5⟩, h6⟩ := h
      subst h1
      exact sndI_rng3 (btC_ok F h2).1 (btC_ok F h2).2 h3 (by rw [plainXs, plainXs, h3', h3'']; rfl)
        (sndA_cons (chE_ok a F h4) (sndA_cons (chE_ok b F h5) (sndA_cons (chE_ok c F h6) sndA_nil fun X _ => starE h3'') fun X _ => starE h3') fun X _ => starE h3)
    · cases h
  | .enum e, d, sc, P, F, tg, x, h => by
    rw [q_chI_enum] at h
    split at h
    · split at h
      · simp only [Bool.and_eq_true, decide_eq_true_eq] at h
        obtain ⟨⟨⟨h1, h2⟩, h3⟩, h4⟩ := h
        subst h1
        exact sndI_enum F.fam (btC_ok F h2).1 (btC_ok F h2).2 h3 (chE_ok e F h4)
      · cases h
    · cases h
  | .keys _, d, sc, P, F, tg, x, h => by rw [q_chI_keys] at h; cases h
  | .zip _ _, d, sc, P, F, tg, x, h => by rw [q_chI_zip] at h; cases h
termination_by structural e => e
theorem chG_ok : ∀ (t : G) {d : Option Scope} {sc : Scope} {P : Cx → Prop} (_ : Env1 K cs g B N d sc P) {x : Expr}, chG B N d sc t x = true → SndG K cs P x (gsl t) (evG g t)
  | .nm i, d, sc, P, F, x, h => by
    rw [q_chG_nm] at h
    split at h
    · obtain ⟨h1, h2, h3⟩ := lC_ok F h
      exact sndG_nm F.fam h1 h2 h3
    · cases h
  | .sub o i, d, sc, P, F, x, h => by
    rw [q_chG_sub] at h
    split at h
    · simp only [Bool.and_eq_true] at h
      exact sndG_sub F.fam h.1.1 (chE_ok o F h.1.2) (chE_ok i F h.2)
    · cases h
  | .fld _ _, d, sc, P, F, x, h => by rw [q_chG_fld] at h; cases h
  | .tp gs, d, sc, P, F, x, h => by
    rw [q_chG_tp] at h
    split at h
    · simp only [Bool.and_eq_true, decide_eq_true_eq] at h
      exact sndG_tp F.fam (chGs_ok gs F h.1.1 h.2) (fun X _ => (asEs h.1.1).1) (fun X _ => (asEs h.1.1).2) h.1.2
    · cases h
termination_by structural e => e
theorem chGs_ok : ∀ (t : Gs) {d : Option Scope} {sc : Scope} {P : Cx → Prop} (_ : Env1 K cs g B N d sc P) {x : List Expr}, plainXs x = true → chGs B N d sc t x = true → SndGs K cs P x (gsls t) (evGs g t)
  | .nil, d, sc, P, F, x, hp, h => by
    rw [q_chGs_nil] at h
    split at h
    · exact sndGs_nil
    · cases h
  | .cons t ts, d, sc, P, F, x, hp, h => by
    rw [q_chGs_cons] at h
    split at h
    · rw [Bool.and_eq_true] at h
      rw [plainXs, Bool.and_eq_true] at hp
      exact sndGs_cons (chG_ok t F h.1) (chGs_ok ts F hp.2 h.2) fun X _ => by rw [asE hp.1]; rfl
    · cases h
termination_by structural e => e
end
end
end Py
namespace Py
open PySem Spec PyProof.Rows L2
def isC : E → Bool
  | .comp _ _ _ _ _ _ => true
  | .comp2 _ _ _ _ _ _ _ _ _ _ => true
  | _ => false
def noTup : Expr → Bool
  | .Tuple _ _ _ => false
  | .List _ _ => false
  | _ => true
/-- x, y = e, f: the two stores are swapped -/
def parB (sc : Scope) (x y : Str) (px py : Pos) (a b : Expr) : Bool :=
  decide (sc.names.lookup x = some .local) && decide (sc.names.lookup y = some .local) && decide (px.line = py.line) && decide ([x, y].eraseDups.length = 2) && plainX a && plainX b && !([a, b].all (foldedForSure 8)) && !([a, b].all (constantsAlone 8))
mutual
def chS (B : Tab) (N : List Str) (d : Option Scope) (sc : Scope) : S → Stmt → Bool
  | .asg t e, x => (match x with
    | .Assign [.Name n _] v _ => (match t with | .nm i => lC N d sc i n && (noComp v || isC e) && chE B N d sc e v | _ => false)
    | .Assign [.Tuple [.Name n px, .Name m py] _ _] (.Tuple [a, b] _ _) _ => (match t with
      | .tp (.cons (.nm i) (.cons (.nm j) .nil)) => (match e with
        | .tup (.cons ea (.cons eb .nil)) => lC N d sc i n && lC N d sc j m && !decide (i = j) && parB sc n m px py a b && chE B N d sc ea a && chE B N d sc eb b
        | _ => false)
      | _ => false)
    | .Assign [y] v _ => plainX y && noComp v && (noTup y || noTup v) && chG B N d sc t y && chE B N d sc e v
    | _ => false)
  | .aug i o e, x => (match x with | .AugAssign (.Name n _) op v _ => augOk o && decide (op = bop o) && lC N d sc i n && chE B N d sc e v | _ => false)
  | .augS _ _ _ _, _ => false
  | .ex e, x => (match x with | .Expr v _ => noComp v && chE B N d sc e v | _ => false)
  | .ret e, x => (match x with | .Return (some v) _ => chE B N d sc e v | _ => false)
  | .retN, x => (match x with | .Return none _ => true | _ => false)
  | .ife t a b, x => (match x with | .If v y z _ => chT B N d sc t v && chSs B N d sc a y && chSs B N d sc b z | _ => false)
  | .for_ t it b, x => (match x with | .For tg i y [] _ => noSet i && chI B N d sc it tg i && chG B N d sc t tg && chSs B N d sc b y | _ => false)
  | .while_ t b, x => (match x with | .While v y [] _ => chT B N d sc t v && chSs B N d sc b y | _ => false)
  | .pass, x => (match x with | .Pass _ => true | _ => false)
  | .brk, x => (match x with | .Break _ => true | _ => false)
  | .cont, x => (match x with | .Continue _ => true | _ => false)
  | .raise _ _, _ => true
  | .doc, x => (match x with | .Expr (.Constant (.str _) _ _) _ => true | _ => false)
def chSs (B : Tab) (N : List Str) (d : Option Scope) (sc : Scope) : Ss → List Stmt → Bool
  | .nil, xs => (match xs with | [] => true | _ => false)
  | .cons s ss, xs => (match xs with | x :: xs => chS B N d sc s x && chSs B N d sc ss xs | _ => false)
end
section
variable {K : PySem.W.Frag} {cs : List ClsD} {g : Gm} {B : Tab} {N : List Str} {d : Option Scope} {sc : Scope} {P : Cx → Prop}
theorem swap_none {y v : Expr} (h : noTup y = true ∨ noTup v = true) : ∀ env, swappedStores [y] v env = pure none := fun env => by
  rcases h with h | h
  · cases y <;> first | (cases h; done) | (cases v <;> rfl)
  · cases v <;> first | (cases h; done) | (cases y <;> rfl)
theorem swap_par (F : Env1 K cs g B N d sc P) {n m : Str} {px py pt pt2 : Pos} {kt k2 : Nat} {a b : Expr} (h : parB sc n m px py a b = true) : ∀ X, P X → swappedStores [.Tuple [.Name n px, .Name m py] kt pt] (.Tuple [a, b] k2 pt2) X.env = pure (some [n, m]) := fun X hX => by
  unfold parB at h
  simp only [Bool.and_eq_true, Bool.not_eq_true', decide_eq_true_eq] at h
  obtain ⟨⟨⟨⟨⟨⟨⟨h1, h2⟩, h3⟩, h4⟩, h5⟩, h6⟩, h7⟩, h8⟩ := h
  have hs := F.esc X hX
  have hb : X.env.blockKind = .function := by unfold Env.blockKind; rw [hs, F.kind]; rfl
  have k1 : X.env.kindOf n = some .local := by show X.env.scope.names.lookup n = _; rw [hs, h1]
  have k2' : X.env.kindOf m = some .local := by show X.env.scope.names.lookup m = _; rw [hs, h2]
  have st : ([a, b].any fun | .Starred .. => true | _ => false) = false := by
    cases a <;> first | (cases h5; done) | skip
    all_goals (cases b <;> first | (cases h6; done) | rfl)
  unfold swappedStores
  simp only [hb, h7, h8, List.length_cons, List.length_nil]
  rw [if_neg (by decide), if_neg (by rw [Bool.not_eq_true]; exact st), if_neg (by simp [k1, k2', Expr.pos, h3, h4]), if_neg (by decide), if_neg (by decide)]
  simp [k1, k2', Expr.pos, h3]
theorem swS_eq {env : Env} {elt : Expr} {gs : List Comprehension} {scope : Scope} {pos py : Pos} {y : Str} {l : Nat} : swapsWith (.ListComp elt gs scope pos) (some (.Name y py)) l env = pure (env.blockKind == .function && env.kindOf y == some .local && py.line == pos.line && !(scope.names.any fun (n, k) => n == y && (k == .local || k == .cell))) := rfl
/-- the name takes the new list within the block, or behind it -/
theorem as_lc (F : Env1 K cs g B N d sc P) {i : Nat} {n : Str} {pn pos cpos : Pos} {elt : Expr} {gs : List Comprehension} {scope : Scope} {e : E} (hl : lC N d sc i n = true) (h1 : SndE K cs P (.ListComp elt gs scope cpos) (evE g e))
    (h2 : ∀ {i : Nat} {y : Str} {py spos : Pos}, (∀ X, P X → X.N[i]? = some y) → (∀ X, P X → X.env.scope.names.lookup y = some .local) → (∀ X, P X → swapsWith (.ListComp elt gs scope cpos) (some (.Name y py)) spos.line X.env = pure true) → SndAs K cs P i y py spos (.ListComp elt gs scope cpos) (evE g e)) :
    SndS K cs P (.Assign [.Name n pn] (.ListComp elt gs scope cpos) pos) (exS g (.asg (.nm i) e)) := by
  obtain ⟨n1, n2, n3⟩ := lC_ok F hl
  refine sndS_as ?_
  have hv : ∀ X, P X → (X.env.blockKind == .function && X.env.kindOf n == some .local && pn.line == cpos.line && !(scope.names.any fun (z, k) => z == n && (k == .local || k == .cell))) = (decide (sc.names.lookup n = some .local) && pn.line == cpos.line && !(scope.names.any fun (z, k) => z == n && (k == .local || k == .cell))) := fun X hX => by
    have hb : X.env.blockKind = .function := by unfold Env.blockKind; rw [F.esc X hX, F.kind]; rfl
    have hk : X.env.kindOf n = sc.names.lookup n := by show X.env.scope.names.lookup n = _; rw [F.esc X hX]
    rw [hb, hk]
    have : (sc.names.lookup n == some NameKind.local) = decide (sc.names.lookup n = some .local) := by
      cases q : decide (sc.names.lookup n = some .local) with
      | true => rw [of_decide_eq_true q]; rfl
      | false => exact beq_eq_false_iff_ne.mpr (of_decide_eq_false q)
    rw [this]
    rfl
  cases q : (decide (sc.names.lookup n = some .local) && pn.line == cpos.line && !(scope.names.any fun (z, k) => z == n && (k == .local || k == .cell))) with
  | true =>
    refine h2 n1 (fun X hX => ?_) fun X hX => by rw [swS_eq, hv X hX, q]
    rw [F.esc X hX]
    rw [Bool.and_eq_true, Bool.and_eq_true] at q
    exact of_decide_eq_true q.1.1
  | false => exact sndAs_set F.fam n1 n2 n3 (fun X hX => by rw [swS_eq, hv X hX, q]) h1
theorem as_comp (F : Env1 K cs g B N d sc P) {i : Nat} {n : Str} {pn pos : Pos} {v : Expr} {e : E} (hl : lC N d sc i n = true) (hc : isC e = true) (h : chE B N d sc e v = true) : SndS K cs P (.Assign [.Name n pn] v pos) (exS g (.asg (.nm i) e)) := by
  have h0 := chE_ok e F h
  cases e with
  | comp m gg it t e vs =>
    rw [q_chE_comp] at h
    split at h
    · rename_i y tg ii ifs scope pos
      simp only [Bool.and_eq_true] at h
      obtain ⟨⟨⟨⟨⟨⟨h1, h2⟩, h3⟩, h4⟩, h5⟩, h6⟩, h7⟩ := h
      obtain ⟨hb, hk⟩ := blkC_ok F h1
      have F' := F.blk hk
      have hc : SndC K cs (Blk P scope) ifs (evT g t) := by
        split at h4
        · cases t with
          | tt => exact sndC_nil
          | _ => cases h4
        · exact sndC_one (chT_ok t F' h4).1
        · cases h4
      have := snd_lc F.fam hb (chI_ok it F h2) (chG_ok gg F' h3) hc (chE_ok e F' h5) (by rw [own_snd]; exact all_in h6) (set_ok h7) (m := m) (pos := pos)
      rw [own_snd] at this
      exact as_lc F hl this.1 this.2
    · cases h
  | comp2 m gg it t g1 it1 t1 e vs vs1 =>
    rw [q_chE_comp2] at h
    split at h
    · rename_i y tg ii ifs tg1 i1 ifs1 scope pos
      simp only [Bool.and_eq_true] at h
      obtain ⟨⟨⟨⟨⟨⟨⟨⟨⟨⟨⟨⟨h1, h0⟩, h2⟩, h3⟩, h4⟩, h2'⟩, h3'⟩, h4'⟩, h5⟩, h6⟩, h6'⟩, h7⟩, h7'⟩ := h
      obtain ⟨hb, hk⟩ := blkC_ok F h1
      have F' := F.blk hk
      have hc : SndC K cs (Blk P scope) ifs (evT g t) := by
        split at h4
        · cases t with
          | tt => exact sndC_nil
          | _ => cases h4
        · exact sndC_one (chT_ok t F' h4).1
        · cases h4
      have hc' : SndC K cs (Blk P scope) ifs1 (evT g t1) := by
        split at h4'
        · cases t1 with
          | tt => exact sndC_nil
          | _ => cases h4'
        · exact sndC_one (chT_ok t1 F' h4').1
        · cases h4'
      have := snd_lc2 F.fam hb (by rw [own_snd]; exact all_in h0) (chI_ok it F h2) (chG_ok gg F' h3) hc (chI_ok it1 F' h2') (chG_ok g1 F' h3') hc' (chE_ok e F' h5) (by rw [own_snd]; exact all_in h6) (all_in h6') (set_ok h7) (set_ok h7') (m := m) (pos := pos)
      rw [own_snd] at this
      exact as_lc F hl this.1 this.2
    · cases h
  | _ => cases hc
theorem asg_ok (F : Env1 K cs g B N d sc P) {t : G} {e : E} {x : Stmt} (h : chS B N d sc (.asg t e) x = true) : SndS K cs P x (exS g (.asg t e)) := by
  unfold chS at h
  split at h
  · split at h
    · rename_i n pn v pos t i
      simp only [Bool.and_eq_true, Bool.or_eq_true] at h
      obtain ⟨⟨h1, h2⟩, h3⟩ := h
      rcases h2 with h2 | h2
      · obtain ⟨n1, n2, n3⟩ := lC_ok F h1
        exact sndS_nm F.fam n1 n2 n3 (fun X _ => swaps_no h2) (chE_ok e F h3)
      · exact as_comp F h1 h2 h3
    · cases h
  · split at h
    · split at h
      · rename_i n px m py kt pt a b k2 pt2 pos t i j e ea eb
        simp only [Bool.and_eq_true, Bool.not_eq_true', decide_eq_false_iff_not] at h
        obtain ⟨⟨⟨⟨⟨h1, h2⟩, h3⟩, h4⟩, h5⟩, h6⟩ := h
        have hp := h4
        unfold parB at hp
        simp only [Bool.and_eq_true, decide_eq_true_eq] at hp
        obtain ⟨⟨⟨⟨⟨⟨⟨p1, p2⟩, p3⟩, p4⟩, p5⟩, p6⟩, p7⟩, p8⟩ := hp
        refine sndS_par F.fam (lC_ok F h1).1 (lC_ok F h2).1 h3 (fun X hX => by rw [F.esc X hX]; exact p1) (fun X hX => by rw [F.esc X hX]; exact p2) ?_ (swap_par F h4)
        exact sndA_cons (chE_ok ea F h5) (sndA_cons (chE_ok eb F h6) sndA_nil fun X _ => starE p6) fun X _ => starE p5
      · cases h
    · cases h
  · simp only [Bool.and_eq_true, Bool.or_eq_true] at h
    obtain ⟨⟨⟨⟨h1, h2⟩, h3⟩, h4⟩, h5⟩ := h
    exact sndS_asg (chG_ok t F h4) (chE_ok e F h5) h2 (fun X _ => swap_none h3 X.env) fun X _ => by rw [asE h1, assignEach]; rfl
  · cases h
mutual
theorem chS_ok (F : Env1 K cs g B N d sc P) (hp : ∀ X, P X → PassesOwn (model X.prog X.w) X.A X.env X.xe) : ∀ (s : S) {x : Stmt}, chS B N d sc s x = true → SndS K cs P x (exS g s)
  | .asg t e, x, h => asg_ok F h
  | .aug i o e, x, h => by
    unfold chS at h
    split at h
    · simp only [Bool.and_eq_true, decide_eq_true_eq] at h
      obtain ⟨⟨⟨h1, h2⟩, h3⟩, h4⟩ := h
      subst h2
      obtain ⟨n1, n2, n3⟩ := lC_ok F h3
      exact sndS_aug F.fam h1 n1 n2 n3 (chE_ok e F h4)
    · cases h
  | .augS _ _ _ _, x, h => by
    unfold chS at h
    cases h
  | .ex e, x, h => by
    unfold chS at h
    split at h
    · simp only [Bool.and_eq_true] at h
      exact sndS_ex h.1 (chE_ok e F h.2)
    · cases h
  | .ret e, x, h => by
    unfold chS at h
    split at h
    · exact sndS_ret (chE_ok e F h)
    · cases h
  | .retN, x, h => by
    unfold chS at h
    split at h
    · exact sndS_retN
    · cases h
  | .ife t a b, x, h => by
    unfold chS at h
    split at h
    · simp only [Bool.and_eq_true] at h
      exact sndS_ife (chT_ok t F h.1.1).1 (chSs_ok F hp a h.1.2) (chSs_ok F hp b h.2)
    · cases h
  | .for_ t it b, x, h => by
    unfold chS at h
    split at h
    · simp only [Bool.and_eq_true] at h
      obtain ⟨⟨⟨h1, h2⟩, h3⟩, h4⟩ := h
      exact sndS_for F.fam hp (chI_ok it F h2) (chG_ok t F h3) (chSs_ok F hp b h4) (set_ok h1)
    · cases h
  | .while_ t b, x, h => by
    unfold chS at h
    split at h
    · simp only [Bool.and_eq_true] at h
      exact sndS_while hp (chT_ok t F h.1).1 (chSs_ok F hp b h.2)
    · cases h
  | .pass, x, h => by
    unfold chS at h
    split at h
    · exact sndS_pass
    · cases h
  | .brk, x, h => by
    unfold chS at h
    split at h
    · exact sndS_brk
    · cases h
  | .cont, x, h => by
    unfold chS at h
    split at h
    · exact sndS_cont
    · cases h
  | .raise c es, x, h => ⟨_, fun _ _ => ps_never, fun sg H r mu C hid st D w => by
    simp only [exS] at w
    cases q : evEs g es r C with
    | ok us C1 => rw [q] at w; exact w
    | er _ _ _ => rw [q] at w; exact w
    | no => rw [q] at w; exact w⟩
  | .doc, x, h => by
    unfold chS at h
    split at h
    · exact sndS_doc
    · cases h
theorem chSs_ok (F : Env1 K cs g B N d sc P) (hp : ∀ X, P X → PassesOwn (model X.prog X.w) X.A X.env X.xe) : ∀ (s : Ss) {x : List Stmt}, chSs B N d sc s x = true → SndSs K cs P x (exSs g s)
  | .nil, x, h => by
    unfold chSs at h
    split at h
    · exact sndSs_nil
    · cases h
  | .cons s ss, x, h => by
    unfold chSs at h
    split at h
    · rw [Bool.and_eq_true] at h
      exact sndSs_cons (chS_ok F hp s h.1) (chSs_ok F hp ss h.2)
    · cases h
end
end
end Py
namespace Py
open PySem Spec PyProof.Rows L2
section
variable {K : PySem.W.Frag} {cs : List ClsD} {Z Z' : Hp} {mu mu' : List Addr} {n : Nat}
theorem lt_of_get {α : Type} {l : List α} {k : Nat} {a : α} (h : l[k]? = some a) : k < l.length := (List.getElem?_eq_some_iff.mp h).1
mutual
theorem nn_of : ∀ {v : V} {u : U}, RelU K cs Z mu v u → nnU mu.length u = true
  | _, _, .non => rfl
  | _, _, .bl b => rfl
  | _, _, .int i => rfl
  | _, _, .str x => rfl
  | _, _, .tup h r => nns_of r
  | _, _, .ktup h r => nns_of r
  | _, _, .lst h r => nns_of r
  | _, _, .klst h r => nns_of r
  | _, _, .dicK h r => nnk_of r
  | _, _, .dicT h r => nnt_of r
  | _, _, .row c h f r => nns_of r
  | _, _, .cel h => decide_eq_true (lt_of_get h)
theorem nns_of : ∀ {vs : List V} {us : List U}, RelUs K cs Z mu vs us → nnUs mu.length us = true
  | _, _, .nil => rfl
  | _, _, .cons h r => by
    unfold nnUs
    rw [nn_of h, nns_of r]
    rfl
theorem nnk_of : ∀ {vs : List (Key × V)} {us : List (U × U)}, RelK K cs Z mu vs us → nnKs mu.length us = true
  | _, _, .nil => rfl
  | _, _, .cons k h r => by
    unfold nnKs
    rw [nn_of h, nnk_of r]
    rfl
theorem nnt_of : ∀ {vs : List (List Key × V)} {us : List (U × U)}, RelT K cs Z mu vs us → nnKs mu.length us = true
  | _, _, .nil => rfl
  | _, _, .cons k h r => by
    unfold nnKs
    rw [nn_of h, nnt_of r]
    rfl
end
theorem nnc_of {o : HO} {c : Cl} (h : RelC K cs Z mu o c.ct) : nnC mu.length c = true := by
  unfold nnC
  obtain ⟨lv, ct⟩ := c
  cases h with
  | lst r => exact nns_of r
  | dicK r => exact nnk_of r
  | dicT r => exact nnt_of r
  | ins _ _ r => exact nns_of r
mutual
theorem RelU.nn (e : ∀ a o, Z a = some o → Z' a = some o) (m : ∀ k a, k < n → mu[k]? = some a → mu'[k]? = some a) : ∀ {v : V} {u : U}, RelU K cs Z mu v u → nnU n u = true → RelU K cs Z' mu' v u
  | _, _, .non, _ => .non
  | _, _, .bl b, _ => .bl b
  | _, _, .int i, _ => .int i
  | _, _, .str x, _ => .str x
  | _, _, .tup h r, q => .tup (e _ _ h) (RelUs.nn e m r q)
  | _, _, .ktup h r, q => .ktup h (RelUs.nn e m r q)
  | _, _, .lst h r, q => .lst (e _ _ h) (RelUs.nn e m r q)
  | _, _, .klst h r, q => .klst (h.elim (fun z => .inl (rd_up e z)) .inr) (RelUs.nn e m r q)
  | _, _, .dicK h r, q => .dicK (rd_up e h) (RelK.nn e m r q)
  | _, _, .dicT h r, q => .dicT (rd_up e h) (RelT.nn e m r q)
  | _, _, .row c h f r, q => .row c (e _ _ h) f (RelUs.nn e m r q)
  | _, _, .cel h, q => .cel (m _ _ (of_decide_eq_true q) h)
theorem RelUs.nn (e : ∀ a o, Z a = some o → Z' a = some o) (m : ∀ k a, k < n → mu[k]? = some a → mu'[k]? = some a) : ∀ {vs : List V} {us : List U}, RelUs K cs Z mu vs us → nnUs n us = true → RelUs K cs Z' mu' vs us
  | _, _, .nil, _ => .nil
  | _, _, .cons h r, q => by
    unfold nnUs at q
    rw [Bool.and_eq_true] at q
    exact .cons (RelU.nn e m h q.1) (RelUs.nn e m r q.2)
theorem RelK.nn (e : ∀ a o, Z a = some o → Z' a = some o) (m : ∀ k a, k < n → mu[k]? = some a → mu'[k]? = some a) : ∀ {vs : List (Key × V)} {us : List (U × U)}, RelK K cs Z mu vs us → nnKs n us = true → RelK K cs Z' mu' vs us
  | _, _, .nil, _ => .nil
  | _, _, .cons k h r, q => by
    unfold nnKs at q
    rw [Bool.and_eq_true] at q
    exact .cons k (RelU.nn e m h q.1) (RelK.nn e m r q.2)
theorem RelT.nn (e : ∀ a o, Z a = some o → Z' a = some o) (m : ∀ k a, k < n → mu[k]? = some a → mu'[k]? = some a) : ∀ {vs : List (List Key × V)} {us : List (U × U)}, RelT K cs Z mu vs us → nnKs n us = true → RelT K cs Z' mu' vs us
  | _, _, .nil, _ => .nil
  | _, _, .cons k h r, q => by
    unfold nnKs at q
    rw [Bool.and_eq_true] at q
    exact .cons k (RelU.nn e m h q.1) (RelT.nn e m r q.2)
end
theorem RelC.nn (e : ∀ a o, Z a = some o → Z' a = some o) (m : ∀ k a, k < n → mu[k]? = some a → mu'[k]? = some a) {o : HO} {c : Cl} (h : RelC K cs Z mu o c.ct) (q : nnC n c = true) : RelC K cs Z' mu' o c.ct := by
  unfold nnC at q
  obtain ⟨lv, ct⟩ := c
  cases h with
  | lst r => exact .lst (r.nn e m q)
  | dicK r => exact .dicK (r.nn e m q)
  | dicT r => exact .dicT (r.nn e m q)
  | ins a b r => exact .ins a b (r.nn e m q)
end
mutual
theorem beq_ok : ∀ {a b : U}, U.beq a b = true → a = b := by
  intro a b h
  cases a <;> cases b <;> first | (cases h; done) | skip
  case non.non => rfl
  case bl.bl => exact congrArg _ (eq_of_beq (show (_ == _) = true from h))
  case int.int => exact congrArg _ (of_decide_eq_true h)
  case str.str => exact congrArg _ (of_decide_eq_true h)
  case tup.tup => exact congrArg _ (beqs_ok h)
  case ktup.ktup => exact congrArg _ (beqs_ok h)
  case lst.lst => exact congrArg _ (beqs_ok h)
  case klst.klst => exact congrArg _ (beqs_ok h)
  case dic.dic =>
    unfold U.beq at h
    rw [Bool.and_eq_true] at h
    rw [eq_of_beq h.1, beqk_ok h.2]
  case row.row =>
    unfold U.beq at h
    rw [Bool.and_eq_true] at h
    rw [eq_of_beq h.1, beqs_ok h.2]
  case cel.cel => exact congrArg _ (eq_of_beq (show (_ == _) = true from h))
termination_by a => sizeOf a
theorem beqs_ok : ∀ {a b : List U}, U.beqs a b = true → a = b := by
  intro a b h
  cases a <;> cases b <;> first | (cases h; done) | skip
  case nil.nil => rfl
  case cons.cons =>
    unfold U.beqs at h
    rw [Bool.and_eq_true] at h
    rw [beq_ok h.1, beqs_ok h.2]
termination_by a => sizeOf a
theorem beqk_ok : ∀ {a b : List (U × U)}, U.beqk a b = true → a = b
  | [], [], _ => rfl
  | [], _ :: _, h => by cases h
  | _ :: _, [], h => by cases h
  | (p1, p2) :: x, (q1, q2) :: y, h => by
    unfold U.beqk at h
    rw [Bool.and_eq_true, Bool.and_eq_true] at h
    rw [beq_ok h.1, beq_ok h.2.1, beqk_ok h.2.2]
termination_by a => sizeOf a
end
theorem eqCs_ok : ∀ {a b : List Cl}, eqCs a b = true → a = b
  | [], [], _ => rfl
  | [], _ :: _, h => by cases h
  | _ :: _, [], h => by cases h
  | c :: x, e :: y, h => by
    unfold eqCs at h
    rw [Bool.and_eq_true] at h
    have h1 := h.1
    unfold Cl.beq at h1
    rw [Bool.and_eq_true] at h1
    obtain ⟨l1, c1⟩ := c
    obtain ⟨l2, c2⟩ := e
    have e1 : l1 = l2 := eq_of_beq h1.1
    have e2 : c1 = c2 := by
      have h2 := h1.2
      cases c1 <;> cases c2 <;> first | (cases h2; done) | skip
      case lst.lst => exact congrArg _ (beqs_ok h2)
      case dic.dic =>
        dsimp only at h2
        rw [Bool.and_eq_true] at h2
        rw [eq_of_beq h2.1, beqk_ok h2.2]
      case ins.ins =>
        dsimp only at h2
        rw [Bool.and_eq_true] at h2
        rw [eq_of_beq h2.1, beqs_ok h2.2]
    rw [e1, e2, eqCs_ok h.2]
section
variable {K : PySem.W.Frag} {cs : List ClsD} {H0 H1 : Hp} {mu0 mu1 : List Addr} {C0 C1 : List Cl} {hid : List Addr} {u : U} {v : V} {Q : VK}
theorem fin_ok {E : Nat → List U → List Cl → Prop} {keep : Bool} (w0 : WOk K cs H0 mu0 C0 hid) (w : WOk K cs H1 mu1 C1 hid) (g : Grow hid H0 mu0 C0 H1 mu1 C1) (r : RelU K cs (Zof H1 mu1 C1 hid) mu1 v u)
    (q : Wp E (fin keep C0 u C1) (fun u C' => ∀ v H' mu', WOk K cs H' mu' C' hid → Grow hid H0 mu0 C0 H' mu' C' → RelU K cs (Zof H' mu' C' hid) mu' v u → Q v H')) : Q v H1 := by
  unfold fin at q
  split at q
  · exact q _ _ _ w g r
  · rename_i hc
    split at q
    · rename_i hn
      obtain ⟨hu, hc2⟩ := hn
      have m : ∀ (k : Nat) (a : Addr), k < C0.length → mu1[k]? = some a → (mu1.take C0.length)[k]? = some a := fun k a hk h => by
        rw [List.getElem?_take, if_pos hk]
        exact h
      have e : ∀ a o, Zof H1 mu1 C1 hid a = some o → Zof H1 (mu1.take C0.length) (C1.take C0.length) hid a = some o := zof_take
      have nn : ∀ (k : Nat) (c : Cl), k < C0.length → C1[k]? = some c → nnC C0.length c = true := fun k c hk h => by
        have ht : (C1.take C0.length)[k]? = some c := by rw [List.getElem?_take, if_pos hk]; exact h
        rcases Bool.or_eq_true _ _ ▸ hc2 with z | z
        · rw [eqCs_ok z] at ht
          obtain ⟨a, o, _, _, rc⟩ := w0.ct k c ht
          rw [← w0.len]
          exact nnc_of rc
        · exact List.all_eq_true.mp z c (List.mem_of_getElem? ht)
      have w2 : WOk K cs H1 (mu1.take C0.length) (C1.take C0.length) hid := w.takeC C0.length fun k c o hk h rc => rc.nn e m (nn k c hk h)
      refine q v H1 (mu1.take C0.length) w2 ⟨⟨fun a o z => rd_up e (g.up.r a o z), fun a c dx fs z => e _ _ (g.up.i a c dx fs z), fun a xs z => e _ _ (g.up.t a xs z), fun a xs z => e _ _ (g.up.l a xs z), fun k a z => ?_⟩, g.hid⟩ (r.nn e m hu)
      exact m k a (by rw [← w0.len]; exact lt_of_get z) (g.up.m k a z)
    · exact q _ _ _ w g r
end
end Py
namespace Py
open PySem Spec PyProof.Rows L2
/-- a def of the text: where it stands; its names, the parameters first -/
structure DD where
  d : He.DefD
  N : List Str
  ps : List Str
def ddC (B : Tab) (D : DD) (df : Def) : Bool :=
  C8.scC D.N D.ps D.d.scope && decide (D.N.length = df.nslots) && decide (D.ps.length = df.np) && decide (D.ps.Nodup) && chSs B D.N none D.d.scope df.body D.d.body
abbrev FuD (K : PySem.W.Frag) (D : DD) (fd : FuncData) : Prop := FunD K D.d.name D.d.qual D.d.params D.d.body D.d.scope [] [] (He.fAd K D.d.at_) fd
structure WD (K : PySem.W.Frag) (mg : Str → Option Value) (cs : List ClsD) (p : Prog) (B : Tab) (Ds : List DD) : Prop where
  chk : ∀ (j : Nat) (D : DD) (df : Def), Ds[j]? = some D → p.defs[j]? = some df → ddC B D df = true
  bind : ∀ (j : Nat) (D : DD), Ds[j]? = some D → ∀ fd, FuD K D fd → L2.Binds K fd D.ps []
  fns : ∀ e ∈ B.fns, ∃ D df fd, Ds[e.2.1]? = some D ∧ p.defs[e.2.1]? = some df ∧ e.2.2 = df.np ∧ mg e.1 = some (.ref (He.fAd K D.d.at_)) ∧ FuD K D fd
  kws : ∀ e ∈ B.kws, ∃ D df fd, Ds[e.2.1]? = some D ∧ p.defs[e.2.1]? = some df ∧ e.2.2.1 = df.np ∧ mg e.1 = some (.ref (He.fAd K D.d.at_)) ∧ FuD K D fd ∧ KBn K fd D.ps e.2.2.2.1 e.2.2.2.2.1 (fun us ws => permV e.2.2.2.2.2 (us ++ ws)) (fun us ws => permV e.2.2.2.2.2 (us ++ ws))
  glo : ∀ e ∈ B.glo, ∀ u, p.con[e.2]? = some u → ∃ v w, mg e.1 = some w ∧ RelV v w ∧ ∀ Z mu, RelU K cs Z mu v u
  bts : ∀ x ∈ B.bts, mg x = none
section
variable {P : Program} {w : World} {K : PySem.W.Frag} {mg : Str → Option Value} {base : Heap} {cs : List ClsD} {p : Prog} {B : Tab} {Ds : List DD}
theorem call_len (n j : Nat) (df : Def) (hj : p.defs[j]? = some df) : ∀ us C, call p n j us C ≠ .no → us.length = df.np := fun us C h => by
  cases n with
  | zero => exact absurd rfl h
  | succ n =>
    unfold call at h
    rw [hj] at h
    dsimp only at h
    unfold runD at h
    split at h
    · assumption
    · exact absurd rfl h
theorem rel_start {Z : Hp} {mu : List Addr} {N : List Str} {k np : Nat} {vs : List V} {us : List U} (r : RelUs K cs Z mu vs us) (hN : N.length = k) (hv : us.length = np) : (L2.start N vs).length = (us.map some ++ List.replicate (k - np) none).length ∧
    ∀ (i : Nat) (u : U), (us.map some ++ List.replicate (k - np) (none : Option U))[i]? = some (some u) → ∃ v, (L2.start N vs)[i]? = some (some v) ∧ RelU K cs Z mu v u := by
  have hl := r.length
  refine ⟨?_, fun i u h => ?_⟩
  · unfold L2.start
    simp [hl, hN, hv]
  · by_cases hi : i < us.length
    · rw [List.getElem?_append_left (by simpa using hi), List.getElem?_map] at h
      have e : us[i]? = some u := by
        cases q : us[i]? with
        | none => rw [q] at h; cases h
        | some u' => rw [q] at h; cases h; rfl
      obtain ⟨v, e1, e2⟩ := r.get i u e
      refine ⟨v, ?_, e2⟩
      unfold L2.start
      rw [List.getElem?_append_left (by rw [List.length_map, hl]; exact hi), List.getElem?_map, e1]
      rfl
    · rw [List.getElem?_append_right (by simpa using hi), List.getElem?_replicate] at h
      split at h <;> cases h
theorem defs_ok (W : WD K mg cs p B Ds) : ∀ (n j : Nat) (D : DD) (df : Def) (fd : FuncData), Ds[j]? = some D → p.defs[j]? = some df → FuD K D fd → FnOk P w K mg base C8.CX0 (2 * n) (He.fAd K D.d.at_) fd D.ps (spOf K cs df.np (call p n j))
  | 0, j, D, df, fd, hD, hd, hF => by
    have hc := W.chk j D df hD hd
    unfold ddC at hc
    simp only [Bool.and_eq_true, decide_eq_true_eq] at hc
    refine ⟨fun vs H Q E h => h.1.trans hc.1.1.2.symm, fun A outer s H args us vs Q E hr e0 hb r h => ?_⟩
    obtain ⟨_, us', mu, C, hid, _, _, hw⟩ := h
    exact hw.elim
  | n + 1, j, D, df, fd, hD, hd, hF => by
    have hc := W.chk j D df hD hd
    unfold ddC at hc
    simp only [Bool.and_eq_true, decide_eq_true_eq] at hc
    obtain ⟨⟨⟨⟨c1, c2⟩, c3⟩, c4⟩, c5⟩ := hc
    have S : FnScope D.N D.ps D.d.scope := C8.fnScope_by c1
    refine (FunD.ok (k := 2 * n + 1) hF S (fun (vs : List V) (H : Hp) (Q : VK) (E : XK) (h : spOf K cs df.np (call p (n + 1) j) vs H Q E) => h.1.trans c3.symm) fun cdv A outer s H vs Q E hr h => ?_ : FnOk P w K mg base C8.CX0 (2 * n + 1 + 1) (He.fAd K D.d.at_) fd D.ps _)
    generalize hX : (cxOf C8.CX0 P w K mg base D.N D.d.qual D.d.scope (He.fAd K D.d.at_) cdv A outer s H E).nox = X0
    have rm : Room (2 * n) (A.deeper (envOfC D.d.qual D.d.scope s.heap.objs.size (He.fAd K D.d.at_) cdv)) := hr.mono (Nat.le_succ _)
    have F : Env1 K cs (p.gl (call p n)) B D.N none D.d.scope (fun X => X = X0) := {
      fam := ⟨fun X e => by subst e; subst hX; rfl, fun X e => by subst e; subst hX; exact (show (A.deeper (envOfC D.d.qual D.d.scope s.heap.objs.size (He.fAd K D.d.at_) cdv)).units + 65 < cLine by have := rm.un; omega), fun X e => by subst e; subst hX; rfl, fun X e => by subst e; subst hX; exact S.nd⟩
      kind := S.kind
      esc := fun X e => by subst e; subst hX; rfl
      eN := fun X e => by subst e; subst hX; rfl
      fn := fun X e x _ => by subst e; subst hX; rfl
      fns := fun e he => by
        obtain ⟨D', df', fd', h1, h2, h3, h4, h5⟩ := W.fns e he
        refine ⟨2 * n, He.fAd K D'.d.at_, fd', D'.ps, ?_, fun X e => ?_⟩
        · rw [h3]; exact call_len n e.2.1 df' h2
        · subst e
          subst hX
          rw [h3]
          exact ⟨defs_ok W n e.2.1 D' df' fd' h1 h2 h5, rm, h4, h5.kp, W.bind _ _ h1 fd' h5⟩
      kws := fun e he => by
        obtain ⟨D', df', fd', h1, h2, h3, h4, h5, h6⟩ := W.kws e he
        refine ⟨2 * n, He.fAd K D'.d.at_, fd', D'.ps, ?_, fun X e => ?_⟩
        · rw [h3]; exact call_len n e.2.1 df' h2
        · subst e
          subst hX
          rw [h3]
          exact ⟨defs_ok W n e.2.1 D' df' fd' h1 h2 h5, rm, h4, h5.kp, h6⟩
      glo := fun e he u hu => by
        obtain ⟨v, w', h1, h2, h3⟩ := W.glo e he u hu
        exact ⟨v, w', fun X e => by subst e; subst hX; exact h1, h2, h3⟩
      bts := fun x hx X e => by subst e; subst hX; exact W.bts x hx }
    obtain ⟨t, ht, hs⟩ := chSs_ok F (fun X e => by subst e; subst hX; exact PassesOwn.never) df.body c5
    refine ⟨t, PSs.nox (by rw [hX]; exact ht X0 rfl), ?_⟩
    obtain ⟨hl, us, mu, C, hid, w0, r, hw⟩ := h
    have hu : us.length = df.np := r.length.symm.trans hl
    obtain ⟨l1, l2⟩ := rel_start (N := D.N) (k := df.nslots) r c2 hu
    have st : StOk K cs (L2.start D.N vs) H (us.map some ++ List.replicate (df.nslots - df.np) none) mu C hid := ⟨w0, l1, l2⟩
    refine hs (L2.start D.N vs) H _ mu C hid st _ ?_
    unfold call at hw
    rw [hd] at hw
    dsimp only at hw
    unfold runD at hw
    rw [if_pos hu] at hw
    cases e : exSs (p.gl (call p n)) df.body (us.map some ++ List.replicate (df.nslots - df.np) none) C with
    | nx r' C1 =>
      rw [e] at hw
      exact fun sg' H' mu' st' g' => fin_ok w0 st'.w g' .non hw
    | rt u C1 =>
      rw [e] at hw
      exact fun v' H' mu' w' g' r' => fin_ok w0 w' g' r' hw
    | er c l C1 => rw [e] at hw; exact hw
    | bk r' C1 => rw [e] at hw; exact hw.elim
    | ct r' C1 => rw [e] at hw; exact hw.elim
    | no => rw [e] at hw; exact hw.elim
/-- the law's def, called with a script -/
theorem sp_law {n j : Nat} {ns : List Int} {C' : List Cl} (h : call p n j [.klst (ns.map U.int)] [] = .ok (.bl true) C') {H : Hp} {a : Addr} (hS : SqL K H a (ns.map V.int)) : spOf K cs 1 (call p n j) [.ref a] H (fun v _ => v = .bl true) fun _ _ _ => False := by
  have z : Zof H [] [] [] = H := by
    funext b
    unfold Zof
    rw [if_neg]
    rintro (⟨k, c, h1, _⟩ | h1)
    · simp at h1
    · simp at h1
  refine ⟨rfl, [.klst (ns.map U.int)], [], [], [], ⟨rfl, fun i j a c d h => by simp at h, fun k c h => by simp at h, fun k a h => by simp at h, fun a h => by simp at h⟩, ?_, ?_⟩
  · rw [z]
    exact .cons (.klst hS (rel_ints ns)) .nil
  · rw [h]
    exact fun v H' mu' _ _ r => r.bl_inv
end
end Py
namespace Py
open PySem Spec PyProof.Rows L2
def chkAll (B : Tab) : List DD → List Def → Bool
  | D :: Ds, d :: ds => ddC B D d && chkAll B Ds ds
  | [], [] => true
  | _, _ => false
theorem chkAll_ok {B : Tab} : ∀ {Ds : List DD} {ds : List Def}, chkAll B Ds ds = true → ∀ (j : Nat) (D : DD) (d : Def), Ds[j]? = some D → ds[j]? = some d → ddC B D d = true
  | [], [], _, j, D, d, h1, _ => by simp at h1
  | E :: Ds, e :: ds, h, 0, D, d, h1, h2 => by
    unfold chkAll at h
    rw [Bool.and_eq_true] at h
    simp at h1 h2
    subst h1 h2
    exact h.1
  | E :: Ds, e :: ds, h, j + 1, D, d, h1, h2 => by
    unfold chkAll at h
    rw [Bool.and_eq_true] at h
    exact chkAll_ok h.2 j D d (by simpa using h1) (by simpa using h2)
  | [], _ :: _, h, _, _, _, _, _ => by cases h
  | _ :: _, [], h, _, _, _, _, _ => by cases h
def isGlo (x : Str) : He.Fa → Bool
  | .glo y => decide (y = x)
  | _ => false
def isFree (x : Str) : He.Fa → Bool
  | .free y => decide (y = x)
  | _ => false
def isInt (x : Str) (i : Int) : He.Fa → Bool
  | .int y j => decide (y = x) && decide (j = i)
  | _ => false
def isStr (x z : Str) : He.Fa → Bool
  | .str y j => decide (y = x) && decide (j = z)
  | _ => false
/-- the table agrees with the program and the facts -/
def tabC (B : Tab) (Ds : List DD) (p : Prog) (fa : List He.Fa) : Bool :=
  Ds.all (fun D => D.d.dfl.isEmpty && D.d.kwd.isEmpty) &&
  B.fns.all (fun e => match Ds[e.2.1]?, p.defs[e.2.1]? with
    | some D, some df => decide (df.np = e.2.2) && decide (D.d.at_.1 = e.1) && D.d.at_.2.isNone && fa.any (isGlo e.1)
    | _, _ => false) &&
  B.kws.all (fun e => match Ds[e.2.1]?, p.defs[e.2.1]? with
    | some D, some df => decide (df.np = e.2.2.1) && decide (D.d.at_.1 = e.1) && D.d.at_.2.isNone && fa.any (isGlo e.1)
    | _, _ => false) &&
  B.bts.all (fun x => fa.any (isFree x)) &&
  B.glo.all (fun e => match p.con[e.2]? with
    | some (.int i) => fa.any (isInt e.1 i)
    | some (.str z) => fa.any (isStr e.1 z)
    | none => true
    | _ => false)
theorem permV_vals {vs : List V} {us : List Value} (r : Vals vs us) : ∀ {p : List Nat}, Vals (permV p vs) (permV p us)
  | [] => .nil
  | i :: p => by
    unfold permV
    rw [List.filterMap_cons, List.filterMap_cons]
    by_cases h : i < vs.length
    · have e : vs[i]? = some vs[i] := by simp [h]
      obtain ⟨u, e2, q⟩ := r.get e
      rw [e, e2]
      exact .cons q (permV_vals r)
    · rw [List.getElem?_eq_none (by omega), List.getElem?_eq_none (by rw [← r.length]; omega)]
      exact permV_vals r
section
variable {K : PySem.W.Frag} {mg : Str → Option Value} {h : Heap} {cs : List ClsD} {p : Prog} {B : Tab} {Ds : List DD} {fa : List He.Fa} {fn : List He.DefD}
theorem glo_in (X : K.In h) (G : h.Ns mainGlobals mg) (c : He.SaysD fa fn K) {x : Str} (e : fa.any (isGlo x) = true) : mg x = some (.ref (He.ga K x)) := by
  obtain ⟨f, hf, q⟩ := List.any_eq_true.mp e
  obtain ⟨i, hi⟩ := List.getElem?_of_mem hf
  cases f with
  | glo y =>
    obtain rfl : y = x := of_decide_eq_true q
    exact He.glo_ok X G (c.fact i hi)
  | _ => cases q
theorem free_in (X : K.In h) (G : h.Ns mainGlobals mg) (c : He.SaysD fa fn K) {x : Str} (e : fa.any (isFree x) = true) : mg x = none := by
  obtain ⟨f, hf, q⟩ := List.any_eq_true.mp e
  obtain ⟨i, hi⟩ := List.getElem?_of_mem hf
  cases f with
  | free y =>
    obtain rfl : y = x := of_decide_eq_true q
    exact He.free_ok X G (c.fact i hi)
  | _ => cases q
theorem int_in (X : K.In h) (G : h.Ns mainGlobals mg) (c : He.SaysD fa fn K) {x : Str} {n : Int} (e : fa.any (isInt x n) = true) : ∃ t, mg x = some (.int n t) := by
  obtain ⟨f, hf, q⟩ := List.any_eq_true.mp e
  obtain ⟨i, hi⟩ := List.getElem?_of_mem hf
  cases f with
  | int y j =>
    obtain ⟨q1, q2⟩ := Bool.and_eq_true_iff.mp (show (decide (y = x) && decide (j = n)) = true from q)
    obtain rfl : y = x := of_decide_eq_true q1
    obtain rfl : j = n := of_decide_eq_true q2
    exact He.int_ok X G (c.fact i hi)
  | _ => cases q
theorem str_in (X : K.In h) (G : h.Ns mainGlobals mg) (c : He.SaysD fa fn K) {x z : Str} (e : fa.any (isStr x z) = true) : ∃ t, mg x = some (.str z t) := by
  obtain ⟨f, hf, q⟩ := List.any_eq_true.mp e
  obtain ⟨i, hi⟩ := List.getElem?_of_mem hf
  cases f with
  | str y j =>
    obtain ⟨q1, q2⟩ := Bool.and_eq_true_iff.mp (show (decide (y = x) && decide (j = z)) = true from q)
    obtain rfl : y = x := of_decide_eq_true q1
    obtain rfl : j = z := of_decide_eq_true q2
    exact He.str_ok X G (c.fact i hi)
  | _ => cases q
theorem fAd_ga {D : DD} {x : Str} (h1 : D.d.at_.1 = x) (h2 : D.d.at_.2.isNone = true) : He.fAd K D.d.at_ = He.ga K x := by
  unfold He.fAd
  rw [Option.isNone_iff_eq_none.mp h2, h1]
theorem WD.of (X : K.In h) (G : h.Ns mainGlobals mg) (c : He.SaysD fa fn K) (hfn : fn = Ds.map DD.d) (hc : chkAll B Ds p.defs = true) (ht : tabC B Ds p fa = true)
    (hb : ∀ D ∈ Ds, ∀ fd, FuD K D fd → L2.Binds K fd D.ps [])
    (hk : ∀ e ∈ B.kws, ∀ D, Ds[e.2.1]? = some D → ∀ fd, FuD K D fd → KBn K fd D.ps e.2.2.2.1 e.2.2.2.2.1 (fun us ws => permV e.2.2.2.2.2 (us ++ ws)) (fun us ws => permV e.2.2.2.2.2 (us ++ ws))) : WD K mg cs p B Ds := by
  unfold tabC at ht
  rw [Bool.and_eq_true, Bool.and_eq_true, Bool.and_eq_true, Bool.and_eq_true] at ht
  obtain ⟨⟨⟨⟨t1, t2⟩, t3⟩, t4⟩, t5⟩ := ht
  have fu : ∀ (j : Nat) (D : DD), Ds[j]? = some D → ∃ fd, FuD K D fd := fun j D hD => by
    have hm : fn[j]? = some D.d := by rw [hfn, List.getElem?_map, hD]; rfl
    obtain ⟨fd, F⟩ := c.def_ j hm
    have z := List.all_eq_true.mp t1 D (List.mem_of_getElem? hD)
    rw [Bool.and_eq_true] at z
    have e1 : D.d.dvs K = [] := by unfold He.DefD.dvs; rw [List.isEmpty_iff.mp z.1]; rfl
    have e2 : D.d.kws K = [] := by unfold He.DefD.kws; rw [List.isEmpty_iff.mp z.2]; rfl
    rw [e1, e2] at F
    exact ⟨fd, F⟩
  refine ⟨chkAll_ok hc, fun j D hD fd F => hb D (List.mem_of_getElem? hD) fd F, fun e he => ?_, fun e he => ?_, fun e he u hu => ?_, fun x hx => free_in X G c (List.all_eq_true.mp t4 x hx)⟩
  · have z := List.all_eq_true.mp t2 e he
    split at z
    · rename_i D df h1 h2
      simp only [Bool.and_eq_true, decide_eq_true_eq] at z
      obtain ⟨⟨⟨z1, z2⟩, z3⟩, z4⟩ := z
      obtain ⟨fd, F⟩ := fu _ D h1
      exact ⟨D, df, fd, h1, h2, z1.symm, by rw [fAd_ga z2 z3]; exact glo_in X G c z4, F⟩
    · cases z
  · have z := List.all_eq_true.mp t3 e he
    split at z
    · rename_i D df h1 h2
      simp only [Bool.and_eq_true, decide_eq_true_eq] at z
      obtain ⟨⟨⟨z1, z2⟩, z3⟩, z4⟩ := z
      obtain ⟨fd, F⟩ := fu _ D h1
      exact ⟨D, df, fd, h1, h2, z1.symm, by rw [fAd_ga z2 z3]; exact glo_in X G c z4, F, hk e he D h1 fd F⟩
    · cases z
  · have z := List.all_eq_true.mp t5 e he
    rw [hu] at z
    cases u with
    | int i =>
      obtain ⟨t, q⟩ := int_in X G c (x := e.1) (n := i) z
      exact ⟨.int i, _, q, ⟨t, rfl⟩, fun _ _ => .int i⟩
    | str i =>
      obtain ⟨t, q⟩ := str_in X G c (x := e.1) (z := i) z
      exact ⟨.str i, _, q, ⟨t, rfl⟩, fun _ _ => .str i⟩
    | _ => cases z
/-- what the law's walk asks for -/
theorem facts_of {P : Program} {w : World} {f : Addr} {j n : Nat} {D : DD} {df : Def} {x : Str} (X : K.In h) (W : ∀ mg' : Str → Option Value, mg' = mg → WD K mg' cs p B Ds) (hD : Ds[j]? = some D) (hd : p.defs[j]? = some df) (hn : df.np = 1) (hps : D.ps = [x]) (ha1 : D.d.at_.1 = "law") (ha2 : D.d.at_.2.isNone = true)
    (hF : ∃ fd, FuD K D fd) (hm : mg ("law" : Str) = some (.ref f)) (hg : mg ("law" : Str) = some (.ref (He.ga K "law")))
    (hA : ∀ fd, FuD K D fd → ∀ (s : Shared) (v : Value), BindsTo s fd ⟨[v], []⟩ [(x, v)])
    (law : ∀ ns : List Int, ∃ C', call p n j [.klst (ns.map U.int)] [] = .ok (.bl true) C') :
    ∃ (fd : FuncData) (sp : Sp), (∀ (s : Shared) (v : Value), BindsTo s fd ⟨[v], []⟩ [(x, v)]) ∧ (∀ (H : Hp) (a : Addr) (ns : List Int), SqL K H a (ns.map V.int) → sp [.ref a] H (fun v _ => v = .bl true) fun _ _ _ => False) ∧
      ∀ base : Heap, FnOk P w K mg base C8.CX0 (2 * n) f fd [x] sp := by
  obtain ⟨fd, F⟩ := hF
  have e := hm.symm.trans hg
  have e2 : f = He.fAd K D.d.at_ := by
    rw [fAd_ga ha1 ha2]
    exact Value.ref.inj (Option.some.inj e)
  refine ⟨fd, spOf K cs df.np (call p n j), hA fd F, fun H a ns hS => ?_, fun base => ?_⟩
  · obtain ⟨C', e3⟩ := law ns
    rw [hn]
    exact sp_law e3 hS
  · rw [e2, ← hps]
    exact defs_ok (W mg rfl) n j D df fd hD hd F
end
end Py
namespace Py
open PySem Spec PyProof.Rows L2
def Le {α : Type} (a b : Rs α) : Prop := a = .no ∨ a = b
def LeO (a b : Ou) : Prop := a = .no ∨ a = b
theorem Le.rfl {α : Type} {a : Rs α} : Le a a := .inr (Eq.refl a)
theorem LeO.rfl {a : Ou} : LeO a a := .inr (Eq.refl a)
theorem Le.bind {α β : Type} {a b : Rs α} {f f' : α → List Cl → Rs β} (h : Le a b) (hf : ∀ x C, Le (f x C) (f' x C)) : Le (a.bind f) (b.bind f') := by
  rcases h with h | h
  · subst h
    exact .inl (Eq.refl _)
  · subst h
    cases a with
    | ok x C => exact hf x C
    | er c l C => exact .rfl
    | no => exact .rfl
theorem Le.out {α : Type} {a b : Rs α} {f f' : α → List Cl → Ou} (h : Le a b) (hf : ∀ x C, LeO (f x C) (f' x C)) : LeO (a.out f) (b.out f') := by
  rcases h with h | h
  · subst h
    exact .inl (Eq.refl _)
  · subst h
    cases a with
    | ok x C => exact hf x C
    | er c l C => exact .rfl
    | no => exact .rfl
theorem Le.ite {α : Type} {p : Prop} [Decidable p] {a a' b b' : Rs α} (h : Le a a') (h' : Le b b') : Le (if p then a else b) (if p then a' else b') := by
  split
  · exact h
  · exact h'
theorem LeO.ite {p : Prop} [Decidable p] {a a' b b' : Ou} (h : LeO a a') (h' : LeO b b') : LeO (if p then a else b) (if p then a' else b') := by
  split
  · exact h
  · exact h'
theorem compGo_le {as_ as' : U → Sl → List Cl → Rs Sl} {t t' : Sl → List Cl → Rs Bool} {e e' : Sl → List Cl → Rs U} (ha : ∀ u r C, Le (as_ u r C) (as' u r C)) (ht : ∀ r C, Le (t r C) (t' r C)) (he : ∀ r C, Le (e r C) (e' r C)) :
    ∀ (us acc : List U) (r : Sl) (C : List Cl), Le (compGo as_ t e us acc r C) (compGo as' t' e' us acc r C)
  | [], acc, r, C => .rfl
  | u :: us, acc, r, C => by
    unfold compGo
    rcases ha u r C with h | h
    · rw [h]; exact .inl rfl
    · rw [← h]
      cases as_ u r C with
      | no => exact .rfl
      | er _ _ _ => exact .rfl
      | ok r1 C1 =>
        dsimp only
        rcases ht r1 C1 with h | h
        · rw [h]; exact .inl rfl
        · rw [← h]
          cases t r1 C1 with
          | no => exact .rfl
          | er _ _ _ => exact .rfl
          | ok b C2 =>
            cases b with
            | false => exact compGo_le ha ht he us acc r C2
            | true =>
              dsimp only
              rcases he r1 C2 with h | h
              · rw [h]; exact .inl rfl
              · rw [← h]
                cases e r1 C2 with
                | no => exact .rfl
                | er _ _ _ => exact .rfl
                | ok v C3 => exact .ite (compGo_le ha ht he us _ r C3) .rfl
theorem comp2Go_le {as_ as' : U → Sl → List Cl → Rs Sl} {t t' : Sl → List Cl → Rs Bool} {e e' : List U → Sl → List Cl → Rs (List U)} (ha : ∀ u r C, Le (as_ u r C) (as' u r C)) (ht : ∀ r C, Le (t r C) (t' r C)) (he : ∀ l r C, Le (e l r C) (e' l r C)) :
    ∀ (us acc : List U) (r : Sl) (C : List Cl), Le (comp2Go as_ t e us acc r C) (comp2Go as' t' e' us acc r C)
  | [], acc, r, C => .rfl
  | u :: us, acc, r, C => by
    unfold comp2Go
    rcases ha u r C with h | h
    · rw [h]; exact .inl rfl
    · rw [← h]
      cases as_ u r C with
      | no => exact .rfl
      | er _ _ _ => exact .rfl
      | ok r1 C1 =>
        dsimp only
        rcases ht r1 C1 with h | h
        · rw [h]; exact .inl rfl
        · rw [← h]
          cases t r1 C1 with
          | no => exact .rfl
          | er _ _ _ => exact .rfl
          | ok b C2 =>
            cases b with
            | false => exact comp2Go_le ha ht he us acc r C2
            | true =>
              dsimp only
              rcases he acc r1 C2 with h | h
              · rw [h]; exact .inl rfl
              · rw [← h]
                cases e acc r1 C2 with
                | no => exact .rfl
                | er _ _ _ => exact .rfl
                | ok v C3 => exact comp2Go_le ha ht he us v r C3
theorem forGo_le {as_ as' : U → Sl → List Cl → Rs Sl} {b b' : Sl → List Cl → Ou} (ha : ∀ u r C, Le (as_ u r C) (as' u r C)) (hb : ∀ r C, LeO (b r C) (b' r C)) : ∀ (us : List U) (r : Sl) (C : List Cl), LeO (forGo as_ b us r C) (forGo as' b' us r C)
  | [], r, C => .rfl
  | u :: us, r, C => by
    unfold forGo
    refine (ha u r C).out fun r1 C1 => ?_
    rcases hb r1 C1 with h | h
    · rw [h]; exact .inl rfl
    · rw [← h]
      cases b r1 C1 with
      | nx r2 C2 => exact forGo_le ha hb us r2 C2
      | ct r2 C2 => exact forGo_le ha hb us r2 C2
      | _ => exact .rfl
theorem whileGo_le {t t' : Sl → List Cl → Rs Bool} {b b' : Sl → List Cl → Ou} (ht : ∀ r C, Le (t r C) (t' r C)) (hb : ∀ r C, LeO (b r C) (b' r C)) : ∀ (n : Nat) (r : Sl) (C : List Cl), LeO (whileGo t b n r C) (whileGo t' b' n r C)
  | 0, r, C => .rfl
  | n + 1, r, C => by
    unfold whileGo
    refine (ht r C).out fun k C1 => .ite ?_ .rfl
    rcases hb r C1 with h | h
    · rw [h]; exact .inl rfl
    · rw [← h]
      cases b r C1 with
      | nx r2 C2 => exact whileGo_le ht hb n r2 C2
      | ct r2 C2 => exact whileGo_le ht hb n r2 C2
      | _ => exact .rfl
section
variable {g : Gm} {cf' : Nat → List U → List Cl → Rs U} (h : ∀ j us C, Le (g.cf j us C) (cf' j us C))
include h
mutual
theorem evE_le : ∀ (e : E) (r : Sl) (C : List Cl), Le (evE g e r C) (evE { g with cf := cf' } e r C)
  | .var i, r, C => by simp only [evE]; exact .rfl
  | .frz i, r, C => by simp only [evE]; exact .rfl
  | .cI i, r, C => by simp only [evE]; exact .rfl
  | .cS i, r, C => by simp only [evE]; exact .rfl
  | .cB i, r, C => by simp only [evE]; exact .rfl
  | .cN, r, C => by simp only [evE]; exact .rfl
  | .glo i, r, C => by simp only [evE]; exact .rfl
  | .bin o a b, r, C => by simp only [evE]; exact (evE_le a r C).bind fun x C1 => (evE_le b r C1).bind fun y C2 => .rfl
  | .neg a, r, C => by simp only [evE]; exact (evE_le a r C).bind fun x C1 => .rfl
  | .cmp o a b, r, C => by simp only [evE]; exact (evE_le a r C).bind fun x C1 => (evE_le b r C1).bind fun y C2 => .rfl
  | .chain o p a b c, r, C => by simp only [evE]; exact (evE_le a r C).bind fun x C1 => (evE_le b r C1).bind fun y C2 => Le.rfl.bind fun k C3 => .ite ((evE_le c r C3).bind fun z C4 => .rfl) .rfl
  | .and a b, r, C => by
    simp only [evE]
    refine (evE_le a r C).bind fun x C1 => ?_
    split
    · exact evE_le b r C1
    · exact .rfl
    · exact .rfl
  | .or a b, r, C => by
    simp only [evE]
    refine (evE_le a r C).bind fun x C1 => ?_
    split
    · exact .rfl
    · exact evE_le b r C1
    · exact .rfl
  | .not a, r, C => by simp only [evE]; exact (evE_le a r C).bind fun x C1 => .rfl
  | .ife t a b, r, C => by simp only [evE]; exact (evT_le t r C).bind fun x C1 => .ite (evE_le a r C1) (evE_le b r C1)
  | .tup es, r, C => by simp only [evE]; exact (evEs_le es r C).bind fun x C1 => .rfl
  | .lst m es, r, C => by simp only [evE]; exact (evEs_le es r C).bind fun x C1 => .rfl
  | .dnew m t, r, C => by simp only [evE]; exact .rfl
  | .ix a i, r, C => by simp only [evE]; exact (evE_le a r C).bind fun x C1 => (evE_le i r C1).bind fun y C2 => .rfl
  | .sl a lo hi, r, C => by simp only [evE]; exact (evE_le a r C).bind fun x C1 => (evO_le lo r C1).bind fun y C2 => (evO_le hi r C2).bind fun z C3 => .rfl
  | .rev a, r, C => by simp only [evE]; exact (evE_le a r C).bind fun x C1 => .rfl
  | .fld a f, r, C => by simp only [evE]; exact (evE_le a r C).bind fun x C1 => .rfl
  | .call j es, r, C => by simp only [evE]; exact (evEs_le es r C).bind fun x C1 => h j x C1
  | .callK j es ks p, r, C => by
    simp only [evE]
    refine (evEs_le es r C).bind fun x C1 => (evEs_le ks r C1).bind fun y C2 => ?_
    cases permU p (x ++ y) with
    | none => exact .rfl
    | some z => exact h j z C2
  | .mk m c es, r, C => by
    simp only [evE]
    refine (evEs_le es r C).bind fun x C1 => ?_
    cases g.ini c with
    | none => exact .rfl
    | some j => exact (h j _ _).bind fun u C2 => .rfl
  | .bi b m es, r, C => by simp only [evE]; exact (evEs_le es r C).bind fun x C1 => .rfl
  | .isi a ts, r, C => by simp only [evE]; exact (evE_le a r C).bind fun x C1 => .rfl
  | .rngL m it, r, C => by simp only [evE]; exact (evI_le it r C).bind fun x C1 => .rfl
  | .me b a es, r, C => by simp only [evE]; exact (evE_le a r C).bind fun x C1 => .ite ((evEs_le es r C1).bind fun y C2 => .rfl) .rfl
  | .comp m g' it t e vs, r, C => by simp only [evE]; exact (evI_le it r C).bind fun l C1 => (compGo_le (fun u r C => evG_le g' u r C) (fun r C => evT_le t r C) (fun r C => evE_le e r C) l [] _ C1).bind fun x C2 => .rfl
  | .comp2 m g' it t g1 it1 t1 e vs vs1, r, C => by
    simp only [evE]
    exact (evI_le it r C).bind fun l C1 => (comp2Go_le (fun u r C => evG_le g' u r C) (fun r C => evT_le t r C) (fun acc r C => (evI_le it1 r C).bind fun l1 C2 => compGo_le (fun u r C => evG_le g1 u r C) (fun r C => evT_le t1 r C) (fun r C => evE_le e r C) l1 acc _ C2) l [] _ C1).bind fun x C2 => .rfl
theorem evEs_le : ∀ (e : Es) (r : Sl) (C : List Cl), Le (evEs g e r C) (evEs { g with cf := cf' } e r C)
  | .nil, r, C => by simp only [evEs]; exact .rfl
  | .cons e es, r, C => by simp only [evEs]; exact (evE_le e r C).bind fun x C1 => (evEs_le es r C1).bind fun y C2 => .rfl
theorem evO_le : ∀ (e : Eo) (r : Sl) (C : List Cl), Le (evO g e r C) (evO { g with cf := cf' } e r C)
  | .no, r, C => by simp only [evO]; exact .rfl
  | .of e, r, C => by simp only [evO]; exact (evE_le e r C).bind fun x C1 => .rfl
theorem evT_le : ∀ (e : T) (r : Sl) (C : List Cl), Le (evT g e r C) (evT { g with cf := cf' } e r C)
  | .tt, r, C => by simp only [evT]; exact .rfl
  | .val e, r, C => by simp only [evT]; exact (evE_le e r C).bind fun x C1 => .rfl
  | .cmp o a b, r, C => by simp only [evT]; exact (evE_le a r C).bind fun x C1 => (evE_le b r C1).bind fun y C2 => .rfl
  | .chain o p a b c, r, C => by simp only [evT]; exact (evE_le a r C).bind fun x C1 => (evE_le b r C1).bind fun y C2 => Le.rfl.bind fun k C3 => .ite ((evE_le c r C3).bind fun z C4 => .rfl) .rfl
  | .and s t, r, C => by simp only [evT]; exact (evT_le s r C).bind fun x C1 => .ite (evT_le t r C1) .rfl
  | .or s t, r, C => by simp only [evT]; exact (evT_le s r C).bind fun x C1 => .ite .rfl (evT_le t r C1)
  | .not t, r, C => by simp only [evT]; exact (evT_le t r C).bind fun x C1 => .rfl
  | .tru e, r, C => by simp only [evT]; exact (evE_le e r C).bind fun x C1 => .rfl
theorem evI_le : ∀ (e : I) (r : Sl) (C : List Cl), Le (evI g e r C) (evI { g with cf := cf' } e r C)
  | .seq e, r, C => by simp only [evI]; exact (evE_le e r C).bind fun x C1 => .rfl
  | .rng1 a, r, C => by simp only [evI]; exact (evE_le a r C).bind fun x C1 => .rfl
  | .rng2 a b, r, C => by simp only [evI]; exact (evE_le a r C).bind fun x C1 => (evE_le b r C1).bind fun y C2 => .rfl
  | .rng3 a b c, r, C => by simp only [evI]; exact (evE_le a r C).bind fun x C1 => (evE_le b r C1).bind fun y C2 => (evE_le c r C2).bind fun z C3 => .rfl
  | .enum e, r, C => by simp only [evI]; exact (evE_le e r C).bind fun x C1 => .rfl
  | .keys e, r, C => by simp only [evI]; exact .rfl
  | .zip a b, r, C => by simp only [evI]; exact .rfl
theorem evG_le : ∀ (e : G) (u : U) (r : Sl) (C : List Cl), Le (evG g e u r C) (evG { g with cf := cf' } e u r C)
  | .nm i, u, r, C => by simp only [evG]; exact .rfl
  | .sub o i, u, r, C => by simp only [evG]; exact (evE_le o r C).bind fun x C1 => (evE_le i r C1).bind fun y C2 => .rfl
  | .fld o f, u, r, C => by simp only [evG]; exact (evE_le o r C).bind fun x C1 => .rfl
  | .tp gs, u, r, C => by
    simp only [evG]
    split
    · exact .ite (evGs_le gs _ r C) .rfl
    · exact .rfl
theorem evGs_le : ∀ (e : Gs) (u : List U) (r : Sl) (C : List Cl), Le (evGs g e u r C) (evGs { g with cf := cf' } e u r C)
  | .nil, [], r, C => by simp only [evGs]; exact .rfl
  | .nil, _ :: _, r, C => by simp only [evGs]; exact .rfl
  | .cons _ _, [], r, C => by simp only [evGs]; exact .rfl
  | .cons t ts, u :: us, r, C => by simp only [evGs]; exact (evG_le t u r C).bind fun r1 C1 => evGs_le ts us r1 C1
end
mutual
theorem exS_le : ∀ (s : S) (r : Sl) (C : List Cl), LeO (exS g s r C) (exS { g with cf := cf' } s r C)
  | .asg t e, r, C => by simp only [exS]; exact (evE_le h e r C).out fun u C1 => (evG_le h t u r C1).out fun r1 C2 => .rfl
  | .aug i o e, r, C => by
    simp only [exS]
    cases r[i]? with
    | none => exact .rfl
    | some z =>
      cases z with
      | none => exact .rfl
      | some x => exact (evE_le h e r C).out fun u C1 => .rfl
  | .augS o i p e, r, C => by
    simp only [exS]
    exact (evE_le h o r C).out fun x C1 => (evE_le h i r C1).out fun y C2 => Le.rfl.out fun z C3 => (evE_le h e r C3).out fun w C4 => .rfl
  | .ex e, r, C => by simp only [exS]; exact (evE_le h e r C).out fun u C1 => .rfl
  | .ret e, r, C => by simp only [exS]; exact (evE_le h e r C).out fun u C1 => .rfl
  | .retN, r, C => by simp only [exS]; exact .rfl
  | .ife t a b, r, C => by simp only [exS]; exact (evT_le h t r C).out fun k C1 => .ite (exSs_le a r C1) (exSs_le b r C1)
  | .for_ t it b, r, C => by simp only [exS]; exact (evI_le h it r C).out fun l C1 => forGo_le (fun u r C => evG_le h t u r C) (fun r C => exSs_le b r C) l r C1
  | .while_ t b, r, C => by simp only [exS]; exact whileGo_le (fun r C => evT_le h t r C) (fun r C => exSs_le b r C) g.wf r C
  | .pass, r, C => by simp only [exS]; exact .rfl
  | .brk, r, C => by simp only [exS]; exact .rfl
  | .cont, r, C => by simp only [exS]; exact .rfl
  | .raise c es, r, C => by simp only [exS]; exact (evEs_le h es r C).out fun k C1 => .rfl
  | .doc, r, C => by simp only [exS]; exact .rfl
theorem exSs_le : ∀ (s : Ss) (r : Sl) (C : List Cl), LeO (exSs g s r C) (exSs { g with cf := cf' } s r C)
  | .nil, r, C => by simp only [exSs]; exact .rfl
  | .cons s ss, r, C => by
    simp only [exSs]
    rcases exS_le s r C with q | q
    · rw [q]; exact .inl rfl
    · rw [← q]
      cases exS g s r C with
      | nx r1 C1 => exact exSs_le ss r1 C1
      | _ => exact .rfl
end
theorem runD_le (d : Def) (us : List U) (C : List Cl) : Le (runD g d us C) (runD { g with cf := cf' } d us C) := by
  unfold runD
  refine .ite ?_ .rfl
  rcases exSs_le h d.body (us.map some ++ List.replicate (d.nslots - d.np) none) C with q | q
  · rw [q]; exact .inl rfl
  · rw [← q]; exact .rfl
end
/-- a call, by a table of the calls it makes -/
theorem call_by {p : Prog} {n j : Nat} {d : Def} {us : List U} {C C' : List Cl} {u : U} (cf : Nat → List U → List Cl → Rs U) (hd : p.defs[j]? = some d) (ht : ∀ j us C, Le (cf j us C) (call p n j us C)) (h : runD (p.gl cf) d us C = .ok u C') : call p (n + 1) j us C = .ok u C' := by
  unfold call
  rw [hd]
  dsimp only
  have z := runD_le (g := p.gl cf) (cf' := call p n) ht d us C
  rw [h] at z
  rcases z with z | z
  · cases z
  · exact z.symm
end Py
namespace Lk10
open PySem PySem.Spec PyProof.Rows L2 Py
/-- is_between -/
def d0 : Def := ⟨3, 3, false, (.cons (.ife (.or (.not (.tru (.isi (.var 0) ["int"]))) (.tru (.isi (.var 0) ["bool"]))) (.cons (.ret (.cB false)) .nil) (.nil)) (.cons (.ret (.and (.or (.cmp .isN (.var 1) (.cN)) (.cmp .ge (.var 0) (.var 1))) (.or (.cmp .isN (.var 2) (.cN)) (.cmp .le (.var 0) (.var 2))))) .nil))⟩
/-- check_size -/
def d1 : Def := ⟨1, 1, false, (.cons (.ife (.not (.tru (.call 0 (.cons (.var 0) (.cons (.cI 1) (.cons (.glo 0) (.nil))))))) (.cons (.raise 1 (.cons (.var 0) .nil)) .nil) (.nil)) .nil)⟩
/-- lots_of -/
def d2 : Def := ⟨2, 6, false, (.cons (.asg (.nm 2) (.lst false (.cons (.tup (.nil)) .nil))) (.cons (.for_ (.nm 3) (.rng1 (.var 1)) (.cons (.asg (.nm 2) (.comp2 false (.nm 4) (.seq (.var 2)) (.tt) (.nm 5) (.rng2 (.ife (.cmp .ne (.var 4) (.tup (.nil))) (.bin .add (.ix (.var 4) (.neg (.cI 1))) (.cI 1)) (.cI 0)) (.var 0)) (.tt) (.bin .add (.var 4) (.tup (.cons (.var 5) .nil))) [4, 5] [5])) .nil)) (.cons (.ret (.var 2)) .nil)))⟩
/-- sum_at -/
def d3 : Def := ⟨2, 3, false, (.cons (.ret (.bi .sum false (.cons (.comp false (.nm 2) (.seq (.var 1)) (.tt) (.ix (.var 0) (.var 2)) [2]) .nil))) .nil)⟩
/-- is_kept -/
def d4 : Def := ⟨4, 7, false, (.cons (.for_ (.nm 4) (.seq (.var 3)) (.cons (.asg (.nm 5) (.bi .len false (.cons (.ix (.var 4) (.cI 0)) .nil))) (.cons (.asg (.nm 6) (.bin .add (.call 3 (.cons (.var 2) (.cons (.ix (.var 4) (.cI 2)) (.nil)))) (.bin .fdiv (.bin .mul (.var 5) (.bin .sub (.var 5) (.cI 1))) (.cI 2)))) (.cons (.ife (.cmp .gt (.bin .add (.call 3 (.cons (.var 0) (.cons (.ix (.var 4) (.cI 0)) (.nil)))) (.call 3 (.cons (.var 1) (.cons (.ix (.var 4) (.cI 1)) (.nil))))) (.var 6)) (.cons (.ret (.cB false)) .nil) (.nil)) .nil)))) (.cons (.ret (.cB true)) .nil))⟩
/-- conditions_with -/
def d5 : Def := ⟨2, 8, false, (.cons (.asg (.nm 2) (.ife (.cmp .gt (.var 1) (.cI 1)) (.call 6 (.cons (.var 1) (.nil))) (.lst false (.nil)))) (.cons (.asg (.nm 3) (.call 2 (.cons (.var 0) (.cons (.var 1) (.nil))))) (.cons (.asg (.nm 4) (.lst true (.nil))) (.cons (.for_ (.nm 5) (.seq (.var 3)) (.cons (.for_ (.nm 6) (.seq (.var 3)) (.cons (.for_ (.nm 7) (.seq (.var 3)) (.cons (.ife (.and (.cmp .eq (.bin .add (.bi .sum false (.cons (.var 5) .nil)) (.bi .sum false (.cons (.var 6) .nil))) (.bin .add (.bi .sum false (.cons (.var 7) .nil)) (.bin .fdiv (.bin .mul (.var 1) (.bin .sub (.var 1) (.cI 1))) (.cI 2)))) (.tru (.call 4 (.cons (.var 5) (.cons (.var 6) (.cons (.var 7) (.cons (.var 2) (.nil)))))))) (.cons (.ex (.me .append (.var 4) (.cons (.tup (.cons (.var 5) (.cons (.var 6) (.cons (.var 7) .nil)))) .nil))) .nil) (.nil)) .nil)) .nil)) .nil)) (.cons (.ret (.frz 4)) .nil)))))⟩
/-- conditions_of -/
def d6 : Def := ⟨1, 3, false, (.cons (.asg (.nm 1) (.lst false (.nil))) (.cons (.for_ (.nm 2) (.rng2 (.cI 1) (.var 0)) (.cons (.asg (.nm 1) (.bin .add (.var 1) (.call 5 (.cons (.var 0) (.cons (.var 2) (.nil)))))) .nil)) (.cons (.ret (.var 1)) .nil)))⟩
/-- conditions -/
def d7 : Def := ⟨1, 1, false, (.cons (.ex (.call 1 (.cons (.var 0) (.nil)))) (.cons (.ret (.bi .tuple false (.cons (.call 6 (.cons (.var 0) (.nil))) .nil))) .nil))⟩
/-- _law_lots -/
def d8 : Def := ⟨2, 7, false, (.cons (.asg (.nm 2) (.lst false (.cons (.tup (.nil)) .nil))) (.cons (.for_ (.nm 3) (.rng1 (.var 1)) (.cons (.asg (.nm 4) (.lst false (.nil))) (.cons (.for_ (.nm 5) (.seq (.var 2)) (.cons (.asg (.nm 4) (.bin .add (.var 4) (.comp false (.nm 6) (.rng1 (.var 0)) (.or (.cmp .eq (.var 5) (.tup (.nil))) (.cmp .gt (.var 6) (.ix (.var 5) (.neg (.cI 1))))) (.bin .add (.var 5) (.tup (.cons (.var 6) .nil))) [6]))) .nil)) (.cons (.asg (.nm 2) (.var 4)) .nil)))) (.cons (.ret (.var 2)) .nil)))⟩
/-- _law_kept -/
def d9 : Def := ⟨2, 7, false, (.cons (.for_ (.nm 2) (.seq (.var 1)) (.cons (.asg (.nm 3) (.bi .len false (.cons (.ix (.var 2) (.cI 0)) .nil))) (.cons (.asg (.nm 4) (.comp false (.nm 5) (.rng1 (.cI 3)) (.tt) (.bi .sum false (.cons (.comp false (.nm 6) (.seq (.ix (.var 2) (.var 5))) (.tt) (.ix (.ix (.var 0) (.var 5)) (.var 6)) [6]) .nil)) [5])) (.cons (.ife (.cmp .gt (.bin .add (.ix (.var 4) (.cI 0)) (.ix (.var 4) (.cI 1))) (.bin .add (.ix (.var 4) (.cI 2)) (.bin .fdiv (.bin .mul (.var 3) (.bin .sub (.var 3) (.cI 1))) (.cI 2)))) (.cons (.ret (.cB false)) .nil) (.nil)) .nil)))) (.cons (.ret (.cB true)) .nil))⟩
/-- _law_lists -/
def d10 : Def := ⟨0, 8, false, (.cons (.asg (.nm 0) (.lst true (.cons (.lst false (.nil)) (.cons (.lst false (.nil)) .nil)))) (.cons (.for_ (.nm 1) (.rng2 (.cI 2) (.cI 5)) (.cons (.asg (.nm 2) (.lst true (.nil))) (.cons (.for_ (.nm 3) (.rng2 (.cI 1) (.var 1)) (.cons (.asg (.nm 4) (.call 8 (.cons (.var 1) (.cons (.var 3) (.nil))))) (.cons (.for_ (.nm 5) (.seq (.var 4)) (.cons (.for_ (.nm 6) (.seq (.var 4)) (.cons (.for_ (.nm 7) (.seq (.var 4)) (.cons (.ife (.and (.cmp .eq (.bin .add (.bi .sum false (.cons (.var 5) .nil)) (.bi .sum false (.cons (.var 6) .nil))) (.bin .add (.bi .sum false (.cons (.var 7) .nil)) (.bin .fdiv (.bin .mul (.var 3) (.bin .sub (.var 3) (.cI 1))) (.cI 2)))) (.tru (.call 9 (.cons (.lst false (.cons (.var 5) (.cons (.var 6) (.cons (.var 7) .nil)))) (.cons (.ix (.var 0) (.var 3)) (.nil)))))) (.cons (.ex (.me .append (.var 2) (.cons (.tup (.cons (.var 5) (.cons (.var 6) (.cons (.var 7) .nil)))) .nil))) .nil) (.nil)) .nil)) .nil)) .nil)) .nil))) (.cons (.ex (.me .append (.var 0) (.cons (.frz 2) .nil))) .nil)))) (.cons (.ret (.frz 0)) .nil)))⟩
/-- law -/
def d11 : Def := ⟨1, 10, false, (.cons (.asg (.nm 1) (.call 10 (.nil))) (.cons (.for_ (.nm 2) (.rng2 (.cI 1) (.cI 5)) (.cons (.ife (.cmp .ne (.lst false (.cons (.call 7 (.cons (.var 2) (.nil))) (.cons (.callK 7 (.nil) (.cons (.var 2) (.nil)) [0]) .nil))) (.bin .mul (.lst false (.cons (.bi .tuple false (.cons (.ix (.var 1) (.var 2)) .nil)) .nil)) (.cI 2))) (.cons (.ret (.cB false)) .nil) (.nil)) (.cons (.for_ (.tp (.cons (.nm 3) (.cons (.nm 4) (.cons (.nm 5) (.nil))))) (.seq (.call 7 (.cons (.var 2) (.nil)))) (.cons (.ife (.cmp .notin (.tup (.cons (.var 4) (.cons (.var 3) (.cons (.var 5) .nil)))) (.ix (.var 1) (.var 2))) (.cons (.ret (.cB false)) .nil) (.nil)) (.cons (.asg (.nm 6) (.comp false (.nm 8) (.seq (.lst false (.cons (.var 3) (.cons (.var 4) (.cons (.var 5) .nil))))) (.tt) (.bi .tuple false (.cons (.comp false (.nm 9) (.seq (.rev (.var 8))) (.tt) (.bin .sub (.bin .sub (.var 2) (.cI 1)) (.var 9)) [9]) .nil)) [8])) (.cons (.asg (.nm 7) (.comp false (.nm 8) (.seq (.var 6)) (.tt) (.bi .tuple false (.cons (.comp false (.nm 9) (.rng1 (.var 2)) (.cmp .notin (.var 9) (.var 8)) (.var 9) [9]) .nil)) [8])) (.cons (.ife (.cmp .notin (.tup (.cons (.ix (.var 7) (.cI 0)) (.cons (.ix (.var 7) (.cI 1)) (.cons (.ix (.var 7) (.cI 2)) .nil)))) (.ix (.var 1) (.var 2))) (.cons (.ret (.cB false)) .nil) (.nil)) .nil))))) .nil))) (.cons (.ret (.cmp .eq (.comp false (.nm 2) (.rng2 (.cI 1) (.cI 5)) (.tt) (.bi .len false (.cons (.call 7 (.cons (.var 2) (.nil))) .nil)) [2]) (.lst false (.cons (.cI 0) (.cons (.cI 3) (.cons (.cI 12) (.cons (.cI 41) .nil))))))) .nil)))⟩
def prog : Prog := { defs := [d0, d1, d2, d3, d4, d5, d6, d7, d8, d9, d10, d11], con := [.int (4)], cls := [], wf := 100000 }
def top (i : Nat) : Stmt := PySem.Challenge.pw_hivesums_k10_whole_lists_of_conditions.main.body.getD i (.Pass ⟨0, 0, 0, 0⟩)
def D0 : DD := ⟨⟨("is_between", none), "is_between", "is_between", C8.fnArgs (top 4), C8.fnBody (top 4), C8.fnScope (top 4), [], []⟩, ["value", "least", "most"], ["value", "least", "most"]⟩
def D1 : DD := ⟨⟨("check_size", none), "check_size", "check_size", C8.fnArgs (top 7), C8.fnBody (top 7), C8.fnScope (top 7), [], []⟩, ["value"], ["value"]⟩
def D2 : DD := ⟨⟨("lots_of", none), "lots_of", "lots_of", C8.fnArgs (top 9), C8.fnBody (top 9), C8.fnScope (top 9), [], []⟩, ["size", "many", "found", "step", "lot", "place"], ["size", "many"]⟩
def D3 : DD := ⟨⟨("sum_at", none), "sum_at", "sum_at", C8.fnArgs (top 10), C8.fnBody (top 10), C8.fnScope (top 10), [], []⟩, ["row", "places", "place"], ["row", "places"]⟩
def D4 : DD := ⟨⟨("is_kept", none), "is_kept", "is_kept", C8.fnArgs (top 11), C8.fnBody (top 11), C8.fnScope (top 11), [], []⟩, ["one", "two", "three", "smaller", "lesser_lot", "many", "high"], ["one", "two", "three", "smaller"]⟩
def D5 : DD := ⟨⟨("conditions_with", none), "conditions_with", "conditions_with", C8.fnArgs (top 12), C8.fnBody (top 12), C8.fnScope (top 12), [], []⟩, ["size", "many", "smaller", "lots", "found", "one", "two", "three"], ["size", "many"]⟩
def D6 : DD := ⟨⟨("conditions_of", none), "conditions_of", "conditions_of", C8.fnArgs (top 13), C8.fnBody (top 13), C8.fnScope (top 13), [], []⟩, ["size", "found", "many"], ["size"]⟩
def D7 : DD := ⟨⟨("conditions", none), "conditions", "conditions", C8.fnArgs (top 14), C8.fnBody (top 14), C8.fnScope (top 14), [], []⟩, ["size"], ["size"]⟩
def D8 : DD := ⟨⟨("_law_lots", none), "_law_lots", "_law_lots", C8.fnArgs (top 16), C8.fnBody (top 16), C8.fnScope (top 16), [], []⟩, ["_law_size", "_law_many", "_law_found", "_law_step", "_law_longer", "_law_lot", "_law_k"], ["_law_size", "_law_many"]⟩
def D9 : DD := ⟨⟨("_law_kept", none), "_law_kept", "_law_kept", C8.fnArgs (top 17), C8.fnBody (top 17), C8.fnScope (top 17), [], []⟩, ["_law_lots_here", "_law_smaller", "_law_lower", "_law_many", "_law_sums", "_law_k", "_law_spot"], ["_law_lots_here", "_law_smaller"]⟩
def D10 : DD := ⟨⟨("_law_lists", none), "_law_lists", "_law_lists", C8.fnArgs (top 18), C8.fnBody (top 18), C8.fnScope (top 18), [], []⟩, ["_law_found", "_law_size", "_law_here", "_law_many", "_law_some", "_law_one", "_law_two", "_law_three"], []⟩
def D11 : DD := ⟨⟨("law", none), "law", "law", C8.fnArgs (top 19), C8.fnBody (top 19), C8.fnScope (top 19), [], []⟩, ["_law_script", "_law_found", "_law_size", "_law_one", "_law_two", "_law_three", "_law_lots_here", "_law_rest_here", "_law_lot", "_law_k"], ["_law_script"]⟩
def Ds : List DD := [D0, D1, D2, D3, D4, D5, D6, D7, D8, D9, D10, D11]
def tab : Tab := { fns := [("is_between", 0, 3), ("check_size", 1, 1), ("lots_of", 2, 2), ("sum_at", 3, 2), ("is_kept", 4, 4), ("conditions_with", 5, 2), ("conditions_of", 6, 1), ("conditions", 7, 1), ("_law_lots", 8, 2), ("_law_kept", 9, 2), ("_law_lists", 10, 0)], kws := [("conditions", 7, 1, 0, ["size"], [0])], glo := [("MOST_SIZE", 0)], bts := ["len", "sum", "tuple", "int", "isinstance", "bool", "range"] }
def fa : List He.Fa := [.glo "is_between", .glo "check_size", .glo "lots_of", .glo "sum_at", .glo "is_kept", .glo "conditions_with", .glo "conditions_of", .glo "conditions", .glo "_law_lots", .glo "_law_kept", .glo "_law_lists", .glo "law", .free "len", .free "sum", .free "tuple", .free "int", .free "isinstance", .free "bool", .free "range", .int "MOST_SIZE" (4)]
def fn : List He.DefD := [D0.d, D1.d, D2.d, D3.d, D4.d, D5.d, D6.d, D7.d, D8.d, D9.d, D10.d, D11.d]
theorem chks : chkAll tab Ds prog.defs = true := by decide +kernel
theorem tabs : tabC tab Ds prog fa = true := by decide +kernel
theorem bnd0 {K : PySem.W.Frag} : ∀ fd, FuD K D0 fd → L2.Binds K fd D0.ps [] := fun _ F => F.bindsN fun _ _ _ _ _ _ us hl => match us, hl with | [_, _, _], _ => rfl
theorem bnd1 {K : PySem.W.Frag} : ∀ fd, FuD K D1 fd → L2.Binds K fd D1.ps [] := fun _ F => F.bindsN fun _ _ _ _ _ _ us hl => match us, hl with | [_], _ => rfl
theorem bnd2 {K : PySem.W.Frag} : ∀ fd, FuD K D2 fd → L2.Binds K fd D2.ps [] := fun _ F => F.bindsN fun _ _ _ _ _ _ us hl => match us, hl with | [_, _], _ => rfl
theorem bnd3 {K : PySem.W.Frag} : ∀ fd, FuD K D3 fd → L2.Binds K fd D3.ps [] := fun _ F => F.bindsN fun _ _ _ _ _ _ us hl => match us, hl with | [_, _], _ => rfl
theorem bnd4 {K : PySem.W.Frag} : ∀ fd, FuD K D4 fd → L2.Binds K fd D4.ps [] := fun _ F => F.bindsN fun _ _ _ _ _ _ us hl => match us, hl with | [_, _, _, _], _ => rfl
theorem bnd5 {K : PySem.W.Frag} : ∀ fd, FuD K D5 fd → L2.Binds K fd D5.ps [] := fun _ F => F.bindsN fun _ _ _ _ _ _ us hl => match us, hl with | [_, _], _ => rfl
theorem bnd6 {K : PySem.W.Frag} : ∀ fd, FuD K D6 fd → L2.Binds K fd D6.ps [] := fun _ F => F.bindsN fun _ _ _ _ _ _ us hl => match us, hl with | [_], _ => rfl
theorem bnd7 {K : PySem.W.Frag} : ∀ fd, FuD K D7 fd → L2.Binds K fd D7.ps [] := fun _ F => F.bindsN fun _ _ _ _ _ _ us hl => match us, hl with | [_], _ => rfl
theorem bnd8 {K : PySem.W.Frag} : ∀ fd, FuD K D8 fd → L2.Binds K fd D8.ps [] := fun _ F => F.bindsN fun _ _ _ _ _ _ us hl => match us, hl with | [_, _], _ => rfl
theorem bnd9 {K : PySem.W.Frag} : ∀ fd, FuD K D9 fd → L2.Binds K fd D9.ps [] := fun _ F => F.bindsN fun _ _ _ _ _ _ us hl => match us, hl with | [_, _], _ => rfl
theorem bnd10 {K : PySem.W.Frag} : ∀ fd, FuD K D10 fd → L2.Binds K fd D10.ps [] := fun _ F => F.bindsN fun _ _ _ _ _ _ us hl => match us, hl with | [], _ => rfl
theorem bnd11 {K : PySem.W.Frag} : ∀ fd, FuD K D11 fd → L2.Binds K fd D11.ps [] := fun _ F => F.bindsN fun _ _ _ _ _ _ us hl => match us, hl with | [_], _ => rfl
theorem bnds {K : PySem.W.Frag} : ∀ D ∈ Ds, ∀ fd, FuD K D fd → L2.Binds K fd D.ps [] := fun D h => by
  simp only [Ds, List.mem_cons, List.not_mem_nil, or_false] at h
  rcases h with rfl | rfl | rfl | rfl | rfl | rfl | rfl | rfl | rfl | rfl | rfl | rfl
  · exact bnd0
  · exact bnd1
  · exact bnd2
  · exact bnd3
  · exact bnd4
  · exact bnd5
  · exact bnd6
  · exact bnd7
  · exact bnd8
  · exact bnd9
  · exact bnd10
  · exact bnd11
theorem kbn0 {K : PySem.W.Frag} : ∀ fd, FuD K D7 fd → KBn K fd D7.ps 0 ["size"] (fun us ws => permV [0] (us ++ ws)) (fun us ws => permV [0] (us ++ ws)) := fun fd F => by
  obtain ⟨oc, od, dV, kV, doc, pm, an, cdv, ct, osl, rfl, lk, hcd, hD, hK⟩ := F.ex
  rcases hD with ⟨_, rfl⟩ | ⟨e, _⟩
  · exact ⟨fun s us ws _ l1 l2 => match us, ws, l1, l2 with | [], [_], _, _ => .of_eq rfl, fun r1 r2 => permV_vals (r1.append r2)⟩
  · exact absurd rfl e
theorem kbns {K : PySem.W.Frag} : ∀ e ∈ tab.kws, ∀ D, Ds[e.2.1]? = some D → ∀ fd, FuD K D fd → KBn K fd D.ps e.2.2.2.1 e.2.2.2.2.1 (fun us ws => permV e.2.2.2.2.2 (us ++ ws)) (fun us ws => permV e.2.2.2.2.2 (us ++ ws)) := fun e h D hD => by
  simp only [tab, List.mem_cons, List.not_mem_nil, or_false] at h
  rcases h with rfl
  · cases hD
    exact kbn0
abbrev R : PySem.W.OpenRow := PySem.W.OpenLaw.row PySem.Challenge.rw_hivesums_k10_whole_lists_of_conditions
abbrev hk : PySem.W.Hook := He.hookD 5 fa fn
def ob (s : PySem.W.SharedT) : He.AlD := He.obsDG 5 fa fn (HandSHeadRun.getT s)
theorem ob_eq (s : PySem.W.SharedT) : ob s = hk.obs s.abs := He.obsDG_eq (HandSHeadRun.getT_eq s)
theorem run (w : World) : HandSHeadRun.RunEq R (PySem.W.view R.prog [19]) hk ob 3000 ["WrongValue", "InvalidSize", "is_between", "MOST_SIZE", "check_size", "lots_of", "sum_at", "is_kept", "conditions_with", "conditions_of", "conditions", "_law_lots", "_law_kept", "_law_lists"] w := by
  intro os
  kernel_rfl
def F : U := (.lst [(.lst []), (.lst []), (.lst [(.tup [(.tup [(.int (0))]), (.tup [(.int (0))]), (.tup [(.int (0))])]), (.tup [(.tup [(.int (0))]), (.tup [(.int (1))]), (.tup [(.int (1))])]), (.tup [(.tup [(.int (1))]), (.tup [(.int (0))]), (.tup [(.int (1))])])]), (.lst [(.tup [(.tup [(.int (0))]), (.tup [(.int (0))]), (.tup [(.int (0))])]), (.tup [(.tup [(.int (0))]), (.tup [(.int (1))]), (.tup [(.int (1))])]), (.tup [(.tup [(.int (0))]), (.tup [(.int (2))]), (.tup [(.int (2))])]), (.tup [(.tup [(.int (1))]), (.tup [(.int (0))]), (.tup [(.int (1))])]), (.tup [(.tup [(.int (1))]), (.tup [(.int (1))]), (.tup [(.int (2))])]), (.tup [(.tup [(.int (2))]), (.tup [(.int (0))]), (.tup [(.int (2))])]), (.tup [(.tup [(.int (0)), (.int (1))]), (.tup [(.int (0)), (.int (1))]), (.tup [(.int (0)), (.int (1))])]), (.tup [(.tup [(.int (0)), (.int (1))]), (.tup [(.int (0)), (.int (2))]), (.tup [(.int (0)), (.int (2))])]), (.tup [(.tup [(.int (0)), (.int (1))]), (.tup [(.int (1)), (.int (2))]), (.tup [(.int (1)), (.int (2))])]), (.tup [(.tup [(.int (0)), (.int (2))]), (.tup [(.int (0)), (.int (1))]), (.tup [(.int (0)), (.int (2))])]), (.tup [(.tup [(.int (0)), (.int (2))]), (.tup [(.int (0)), (.int (2))]), (.tup [(.int (1)), (.int (2))])]), (.tup [(.tup [(.int (1)), (.int (2))]), (.tup [(.int (0)), (.int (1))]), (.tup [(.int (1)), (.int (2))])])]), (.lst [(.tup [(.tup [(.int (0))]), (.tup [(.int (0))]), (.tup [(.int (0))])]), (.tup [(.tup [(.int (0))]), (.tup [(.int (1))]), (.tup [(.int (1))])]), (.tup [(.tup [(.int (0))]), (.tup [(.int (2))]), (.tup [(.int (2))])]), (.tup [(.tup [(.int (0))]), (.tup [(.int (3))]), (.tup [(.int (3))])]), (.tup [(.tup [(.int (1))]), (.tup [(.int (0))]), (.tup [(.int (1))])]), (.tup [(.tup [(.int (1))]), (.tup [(.int (1))]), (.tup [(.int (2))])]), (.tup [(.tup [(.int (1))]), (.tup [(.int (2))]), (.tup [(.int (3))])]), (.tup [(.tup [(.int (2))]), (.tup [(.int (0))]), (.tup [(.int (2))])]), (.tup [(.tup [(.int (2))]), (.tup [(.int (1))]), (.tup [(.int (3))])]), (.tup [(.tup [(.int (3))]), (.tup [(.int (0))]), (.tup [(.int (3))])]), (.tup [(.tup [(.int (0)), (.int (1))]), (.tup [(.int (0)), (.int (1))]), (.tup [(.int (0)), (.int (1))])]), (.tup [(.tup [(.int (0)), (.int (1))]), (.tup [(.int (0)), (.int (2))]), (.tup [(.int (0)), (.int (2))])]), (.tup [(.tup [(.int (0)), (.int (1))]), (.tup [(.int (0)), (.int (3))]), (.tup [(.int (0)), (.int (3))])]), (.tup [(.tup [(.int (0)), (.int (1))]), (.tup [(.int (1)), (.int (2))]), (.tup [(.int (1)), (.int (2))])]), (.tup [(.tup [(.int (0)), (.int (1))]), (.tup [(.int (1)), (.int (3))]), (.tup [(.int (1)), (.int (3))])]), (.tup [(.tup [(.int (0)), (.int (1))]), (.tup [(.int (2)), (.int (3))]), (.tup [(.int (2)), (.int (3))])]), (.tup [(.tup [(.int (0)), (.int (2))]), (.tup [(.int (0)), (.int (1))]), (.tup [(.int (0)), (.int (2))])]), (.tup [(.tup [(.int (0)), (.int (2))]), (.tup [(.int (0)), (.int (2))]), (.tup [(.int (0)), (.int (3))])]), (.tup [(.tup [(.int (0)), (.int (2))]), (.tup [(.int (0)), (.int (2))]), (.tup [(.int (1)), (.int (2))])]), (.tup [(.tup [(.int (0)), (.int (2))]), (.tup [(.int (0)), (.int (3))]), (.tup [(.int (1)), (.int (3))])]), (.tup [(.tup [(.int (0)), (.int (2))]), (.tup [(.int (1)), (.int (2))]), (.tup [(.int (1)), (.int (3))])]), (.tup [(.tup [(.int (0)), (.int (2))]), (.tup [(.int (1)), (.int (3))]), (.tup [(.int (2)), (.int (3))])]), (.tup [(.tup [(.int (0)), (.int (3))]), (.tup [(.int (0)), (.int (1))]), (.tup [(.int (0)), (.int (3))])]), (.tup [(.tup [(.int (0)), (.int (3))]), (.tup [(.int (0)), (.int (2))]), (.tup [(.int (1)), (.int (3))])]), (.tup [(.tup [(.int (0)), (.int (3))]), (.tup [(.int (0)), (.int (3))]), (.tup [(.int (2)), (.int (3))])]), (.tup [(.tup [(.int (1)), (.int (2))]), (.tup [(.int (0)), (.int (1))]), (.tup [(.int (1)), (.int (2))])]), (.tup [(.tup [(.int (1)), (.int (2))]), (.tup [(.int (0)), (.int (2))]), (.tup [(.int (1)), (.int (3))])]), (.tup [(.tup [(.int (1)), (.int (2))]), (.tup [(.int (1)), (.int (2))]), (.tup [(.int (2)), (.int (3))])]), (.tup [(.tup [(.int (1)), (.int (3))]), (.tup [(.int (0)), (.int (1))]), (.tup [(.int (1)), (.int (3))])]), (.tup [(.tup [(.int (1)), (.int (3))]), (.tup [(.int (0)), (.int (2))]), (.tup [(.int (2)), (.int (3))])]), (.tup [(.tup [(.int (2)), (.int (3))]), (.tup [(.int (0)), (.int (1))]), (.tup [(.int (2)), (.int (3))])]), (.tup [(.tup [(.int (0)), (.int (1)), (.int (2))]), (.tup [(.int (0)), (.int (1)), (.int (2))]), (.tup [(.int (0)), (.int (1)), (.int (2))])]), (.tup [(.tup [(.int (0)), (.int (1)), (.int (2))]), (.tup [(.int (0)), (.int (1)), (.int (3))]), (.tup [(.int (0)), (.int (1)), (.int (3))])]), (.tup [(.tup [(.int (0)), (.int (1)), (.int (2))]), (.tup [(.int (0)), (.int (2)), (.int (3))]), (.tup [(.int (0)), (.int (2)), (.int (3))])]), (.tup [(.tup [(.int (0)), (.int (1)), (.int (2))]), (.tup [(.int (1)), (.int (2)), (.int (3))]), (.tup [(.int (1)), (.int (2)), (.int (3))])]), (.tup [(.tup [(.int (0)), (.int (1)), (.int (3))]), (.tup [(.int (0)), (.int (1)), (.int (2))]), (.tup [(.int (0)), (.int (1)), (.int (3))])]), (.tup [(.tup [(.int (0)), (.int (1)), (.int (3))]), (.tup [(.int (0)), (.int (1)), (.int (3))]), (.tup [(.int (0)), (.int (2)), (.int (3))])]), (.tup [(.tup [(.int (0)), (.int (1)), (.int (3))]), (.tup [(.int (0)), (.int (2)), (.int (3))]), (.tup [(.int (1)), (.int (2)), (.int (3))])]), (.tup [(.tup [(.int (0)), (.int (2)), (.int (3))]), (.tup [(.int (0)), (.int (1)), (.int (2))]), (.tup [(.int (0)), (.int (2)), (.int (3))])]), (.tup [(.tup [(.int (0)), (.int (2)), (.int (3))]), (.tup [(.int (0)), (.int (1)), (.int (3))]), (.tup [(.int (1)), (.int (2)), (.int (3))])]), (.tup [(.tup [(.int (1)), (.int (2)), (.int (3))]), (.tup [(.int (0)), (.int (1)), (.int (2))]), (.tup [(.int (1)), (.int (2)), (.int (3))])])])])
def T1 : U := (.tup [])
def T2 : U := (.tup [(.tup [(.tup [(.int (0))]), (.tup [(.int (0))]), (.tup [(.int (0))])]), (.tup [(.tup [(.int (0))]), (.tup [(.int (1))]), (.tup [(.int (1))])]), (.tup [(.tup [(.int (1))]), (.tup [(.int (0))]), (.tup [(.int (1))])])])
def T3 : U := (.tup [(.tup [(.tup [(.int (0))]), (.tup [(.int (0))]), (.tup [(.int (0))])]), (.tup [(.tup [(.int (0))]), (.tup [(.int (1))]), (.tup [(.int (1))])]), (.tup [(.tup [(.int (0))]), (.tup [(.int (2))]), (.tup [(.int (2))])]), (.tup [(.tup [(.int (1))]), (.tup [(.int (0))]), (.tup [(.int (1))])]), (.tup [(.tup [(.int (1))]), (.tup [(.int (1))]), (.tup [(.int (2))])]), (.tup [(.tup [(.int (2))]), (.tup [(.int (0))]), (.tup [(.int (2))])]), (.tup [(.tup [(.int (0)), (.int (1))]), (.tup [(.int (0)), (.int (1))]), (.tup [(.int (0)), (.int (1))])]), (.tup [(.tup [(.int (0)), (.int (1))]), (.tup [(.int (0)), (.int (2))]), (.tup [(.int (0)), (.int (2))])]), (.tup [(.tup [(.int (0)), (.int (1))]), (.tup [(.int (1)), (.int (2))]), (.tup [(.int (1)), (.int (2))])]), (.tup [(.tup [(.int (0)), (.int (2))]), (.tup [(.int (0)), (.int (1))]), (.tup [(.int (0)), (.int (2))])]), (.tup [(.tup [(.int (0)), (.int (2))]), (.tup [(.int (0)), (.int (2))]), (.tup [(.int (1)), (.int (2))])]), (.tup [(.tup [(.int (1)), (.int (2))]), (.tup [(.int (0)), (.int (1))]), (.tup [(.int (1)), (.int (2))])])])
def T4 : U := (.tup [(.tup [(.tup [(.int (0))]), (.tup [(.int (0))]), (.tup [(.int (0))])]), (.tup [(.tup [(.int (0))]), (.tup [(.int (1))]), (.tup [(.int (1))])]), (.tup [(.tup [(.int (0))]), (.tup [(.int (2))]), (.tup [(.int (2))])]), (.tup [(.tup [(.int (0))]), (.tup [(.int (3))]), (.tup [(.int (3))])]), (.tup [(.tup [(.int (1))]), (.tup [(.int (0))]), (.tup [(.int (1))])]), (.tup [(.tup [(.int (1))]), (.tup [(.int (1))]), (.tup [(.int (2))])]), (.tup [(.tup [(.int (1))]), (.tup [(.int (2))]), (.tup [(.int (3))])]), (.tup [(.tup [(.int (2))]), (.tup [(.int (0))]), (.tup [(.int (2))])]), (.tup [(.tup [(.int (2))]), (.tup [(.int (1))]), (.tup [(.int (3))])]), (.tup [(.tup [(.int (3))]), (.tup [(.int (0))]), (.tup [(.int (3))])]), (.tup [(.tup [(.int (0)), (.int (1))]), (.tup [(.int (0)), (.int (1))]), (.tup [(.int (0)), (.int (1))])]), (.tup [(.tup [(.int (0)), (.int (1))]), (.tup [(.int (0)), (.int (2))]), (.tup [(.int (0)), (.int (2))])]), (.tup [(.tup [(.int (0)), (.int (1))]), (.tup [(.int (0)), (.int (3))]), (.tup [(.int (0)), (.int (3))])]), (.tup [(.tup [(.int (0)), (.int (1))]), (.tup [(.int (1)), (.int (2))]), (.tup [(.int (1)), (.int (2))])]), (.tup [(.tup [(.int (0)), (.int (1))]), (.tup [(.int (1)), (.int (3))]), (.tup [(.int (1)), (.int (3))])]), (.tup [(.tup [(.int (0)), (.int (1))]), (.tup [(.int (2)), (.int (3))]), (.tup [(.int (2)), (.int (3))])]), (.tup [(.tup [(.int (0)), (.int (2))]), (.tup [(.int (0)), (.int (1))]), (.tup [(.int (0)), (.int (2))])]), (.tup [(.tup [(.int (0)), (.int (2))]), (.tup [(.int (0)), (.int (2))]), (.tup [(.int (0)), (.int (3))])]), (.tup [(.tup [(.int (0)), (.int (2))]), (.tup [(.int (0)), (.int (2))]), (.tup [(.int (1)), (.int (2))])]), (.tup [(.tup [(.int (0)), (.int (2))]), (.tup [(.int (0)), (.int (3))]), (.tup [(.int (1)), (.int (3))])]), (.tup [(.tup [(.int (0)), (.int (2))]), (.tup [(.int (1)), (.int (2))]), (.tup [(.int (1)), (.int (3))])]), (.tup [(.tup [(.int (0)), (.int (2))]), (.tup [(.int (1)), (.int (3))]), (.tup [(.int (2)), (.int (3))])]), (.tup [(.tup [(.int (0)), (.int (3))]), (.tup [(.int (0)), (.int (1))]), (.tup [(.int (0)), (.int (3))])]), (.tup [(.tup [(.int (0)), (.int (3))]), (.tup [(.int (0)), (.int (2))]), (.tup [(.int (1)), (.int (3))])]), (.tup [(.tup [(.int (0)), (.int (3))]), (.tup [(.int (0)), (.int (3))]), (.tup [(.int (2)), (.int (3))])]), (.tup [(.tup [(.int (1)), (.int (2))]), (.tup [(.int (0)), (.int (1))]), (.tup [(.int (1)), (.int (2))])]), (.tup [(.tup [(.int (1)), (.int (2))]), (.tup [(.int (0)), (.int (2))]), (.tup [(.int (1)), (.int (3))])]), (.tup [(.tup [(.int (1)), (.int (2))]), (.tup [(.int (1)), (.int (2))]), (.tup [(.int (2)), (.int (3))])]), (.tup [(.tup [(.int (1)), (.int (3))]), (.tup [(.int (0)), (.int (1))]), (.tup [(.int (1)), (.int (3))])]), (.tup [(.tup [(.int (1)), (.int (3))]), (.tup [(.int (0)), (.int (2))]), (.tup [(.int (2)), (.int (3))])]), (.tup [(.tup [(.int (2)), (.int (3))]), (.tup [(.int (0)), (.int (1))]), (.tup [(.int (2)), (.int (3))])]), (.tup [(.tup [(.int (0)), (.int (1)), (.int (2))]), (.tup [(.int (0)), (.int (1)), (.int (2))]), (.tup [(.int (0)), (.int (1)), (.int (2))])]), (.tup [(.tup [(.int (0)), (.int (1)), (.int (2))]), (.tup [(.int (0)), (.int (1)), (.int (3))]), (.tup [(.int (0)), (.int (1)), (.int (3))])]), (.tup [(.tup [(.int (0)), (.int (1)), (.int (2))]), (.tup [(.int (0)), (.int (2)), (.int (3))]), (.tup [(.int (0)), (.int (2)), (.int (3))])]), (.tup [(.tup [(.int (0)), (.int (1)), (.int (2))]), (.tup [(.int (1)), (.int (2)), (.int (3))]), (.tup [(.int (1)), (.int (2)), (.int (3))])]), (.tup [(.tup [(.int (0)), (.int (1)), (.int (3))]), (.tup [(.int (0)), (.int (1)), (.int (2))]), (.tup [(.int (0)), (.int (1)), (.int (3))])]), (.tup [(.tup [(.int (0)), (.int (1)), (.int (3))]), (.tup [(.int (0)), (.int (1)), (.int (3))]), (.tup [(.int (0)), (.int (2)), (.int (3))])]), (.tup [(.tup [(.int (0)), (.int (1)), (.int (3))]), (.tup [(.int (0)), (.int (2)), (.int (3))]), (.tup [(.int (1)), (.int (2)), (.int (3))])]), (.tup [(.tup [(.int (0)), (.int (2)), (.int (3))]), (.tup [(.int (0)), (.int (1)), (.int (2))]), (.tup [(.int (0)), (.int (2)), (.int (3))])]), (.tup [(.tup [(.int (0)), (.int (2)), (.int (3))]), (.tup [(.int (0)), (.int (1)), (.int (3))]), (.tup [(.int (1)), (.int (2)), (.int (3))])]), (.tup [(.tup [(.int (1)), (.int (2)), (.int (3))]), (.tup [(.int (0)), (.int (1)), (.int (2))]), (.tup [(.int (1)), (.int (2)), (.int (3))])])])
theorem f10 : call prog 39 10 [] [] = .ok F [] := by kernel_rfl
theorem f7_1 : call prog 39 7 [.int 1] [] = .ok T1 [] := by kernel_rfl
theorem f7_2 : call prog 39 7 [.int 2] [] = .ok T2 [] := by kernel_rfl
theorem f7_3 : call prog 39 7 [.int 3] [] = .ok T3 [] := by kernel_rfl
theorem f7_4 : call prog 39 7 [.int 4] [] = .ok T4 [] := by kernel_rfl
def cft (j : Nat) (us : List U) (C : List Cl) : Rs U := match us, C with
  | [], [] => if j = 10 then .ok F [] else .no
  | [.int n], [] => if j = 7 then (if n = 1 then .ok T1 [] else if n = 2 then .ok T2 [] else if n = 3 then .ok T3 [] else if n = 4 then .ok T4 [] else .no) else .no
  | _, _ => .no
theorem cft_le : ∀ j us C, Le (cft j us C) (call prog 39 j us C) := fun j us C => by
  unfold cft
  split
  · split
    · rename_i e
      subst e
      exact .inr f10.symm
    · exact .inl rfl
  · split
    · rename_i n e
      subst e
      split
      · rename_i e
        subst e
        exact .inr f7_1.symm
      · split
        · rename_i e
          subst e
          exact .inr f7_2.symm
        · split
          · rename_i e
            subst e
            exact .inr f7_3.symm
          · split
            · rename_i e
              subst e
              exact .inr f7_4.symm
            · exact .inl rfl
    · exact .inl rfl
  · exact .inl rfl
theorem law_run (x : U) : runD (prog.gl cft) d11 [x] [] = .ok (.bl true) [] := by kernel_rfl
theorem law_eq (ns : List Int) : ∃ C, call prog 40 11 [.klst (ns.map U.int)] [] = .ok (.bl true) C := ⟨[], call_by cft rfl cft_le (law_run _)⟩
theorem facts {P : Program} {w : World} {K : PySem.W.Frag} {h : Heap} {mg : Str → Option Value} {f : Addr} (X : K.In h) (G : h.Ns mainGlobals mg) (hfa : mg ("law" : Str) = some (.ref f)) (c : He.SaysD fa fn K) :
    ∃ (fd : FuncData) (sp : Sp), (∀ (s : Shared) (v : Value), BindsTo s fd ⟨[v], []⟩ [("_law_script", v)]) ∧ (∀ (H : Hp) (a : Addr) (ns : List Int), SqL K H a (ns.map V.int) → sp [.ref a] H (fun v _ => v = .bl true) fun _ _ _ => False) ∧ ∀ base : Heap, FnOk P w K mg base C8.CX0 (2 * 40) f fd ["_law_script"] sp := by
  have W : WD K mg [] prog tab Ds := WD.of X G c rfl chks tabs bnds kbns
  exact facts_of (j := 11) (D := D11) (df := d11) X (fun _ e => e ▸ W) rfl rfl rfl rfl rfl rfl (c.def_ 11 (d := D11.d) rfl) hfa (glo_in X G c (by decide +kernel)) (fun fd F s v => FunD.bindsA (ps := ["_law_script"]) F (fun _ _ _ _ _ _ us hl => match us, hl with | [_], _ => rfl) s [v] rfl) law_eq
end Lk10
open PySem PySem.W PySem.Calls PyProof.Rows
theorem PySem.Challenge.cw_hivesums_k10_whole_lists_of_conditions_holds : PySem.Challenge.rw_hivesums_k10_whole_lists_of_conditions.Holds := by
  w_on; o_law
  refine HandSHeadRun.head_any (r := Lk10.R) (q := view Lk10.R.prog [19]) (H := Lk10.hk) (ob := Lk10.ob) (M := 3000) (loose := ["WrongValue", "InvalidSize", "is_between", "MOST_SIZE", "check_size", "lots_of", "sum_at", "is_kept", "conditions_with", "conditions_of", "conditions", "_law_lots", "_law_kept", "_law_lists"]) (d := HandSHeadRun.topDef Lk10.R.prog 19) (kwd := []) Lk10.ob_eq
    (by kernel_rfl) (fun s => by kernel_rfl) Lk10.run (by kernel_rfl) (by kernel_rfl) (by kernel_rfl) (by rfl) (by first | assumption | decide +kernel) (by decide +kernel) ⟨rfl, rfl, rfl, rfl, rfl, by decide +kernel⟩ ?hw ?hc
  case hw => w_witness2
  case hc =>
    refine L2.walk_ofE (l := PySem.Challenge.rw_hivesums_k10_whole_lists_of_conditions) (n := 63) (k := 2 * 40) (x := "_law_script") (CX := C8.CX0) rfl (by decide) (by kernel_rfl) ⟨rfl, by decide, by decide⟩ ?F (fun _ _ _ _ z => z)
    intro w mg fa h Y G hmg0
    obtain ⟨K, KX, c⟩ := Y
    have hmg : mg ("law" : PySem.Str) = some (.ref fa) := by
      have e : (HandSHeadRun.topDef Lk10.R.prog 19).name = ("law" : PySem.Str) := by kernel_rfl
      rw [← e]
      exact hmg0
    obtain ⟨fd, sp, hb, hsp, hF⟩ := Lk10.facts (P := PySem.Challenge.rw_hivesums_k10_whole_lists_of_conditions.prog) (w := w) KX G hmg c
    exact ⟨K, fd, sp, KX, hb, fun H a ns hl _ hS => hsp H a ns hS, fun base _ _ => hF base⟩
