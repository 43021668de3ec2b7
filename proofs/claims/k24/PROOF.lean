import PyProof.Rows.All
import Wide.All
import OpenK.AllK
import Wide.FinOn
import KE.KStateDown
import HandS.ForMost
import HandS.Exc
import HandS.ExcOwn
import HandS.CallSlots
import HandS.WordsExc
import HandS.Defaults
import HandS.HeadHook1
import HandS.HeadHook2
import HandS.IsInst
import HandS.TupAny
import HandS.TupMul
import HandS.TupLe
import HandS.Deep
import HandS.Style
import HandS.Flow
import HandS.SetKeys
import HandS.TryOnly
import HandS.MakeKw
import HandS.Iter
import HandS.Zip
import KE.GoesZip
import KE.GoesEnum
import KE.GoesMore
import HandS.MakeKwOnly
import HandS.TryMany
import HandS.ExcField
import HandS.Codes
import KE.SortData
import KE.DatumOrd
import KE.KExcSuper
import HandS.ExcInit
import HandS.More
import HandS.BoundDict
import HandS.Head0
import HandS.Head1
import HandS.Head2
import HandS.HeadEnd
import KE.DataCmp
import PySem.Challenge.RW_ringsandfilms_k24_films
import HandS.Head3
set_option Elab.async false
set_option linter.all false
set_option maxRecDepth 100000
set_option maxHeartbeats 0
-- PyA
namespace Py
open PySem PySem.Spec PyProof.Rows L2

/-! ### 1. plain data -/
/-- plain data; cell n: the n-th mutable object -/
inductive D where
  | non | bl (b : Bool) | int (i : Int) | str (x : Str)
  | tup (xs : List D) | lst (xs : List D)
  | ins (c : Str) (ns : List Str) (ds : List D)
  | scr (ns : List Int)
  | cell (n : Nat)
/-- what stands in a mutable object -/
inductive CV where
  | lst (xs : List D)
  | dic (lk : Bool) (kvs : List (Key × D))
  | ins (c : Str) (fs : List (Str × D))
abbrev Store := List CV

/-- the ground: the written part, the own classes of plain instances -/
structure Bs where
  K : PySem.W.Frag
  cls : List Str
/-- the mutable objects: those of the store, in its order, and hidden ones (a comprehension's list that is still being made) -/
structure Rh where
  c : List Addr
  z : List Addr
instance : Membership Addr Rh := ⟨fun ρ a => a ∈ ρ.c ∨ a ∈ ρ.z⟩
theorem Rh.mem {a : Addr} {ρ : Rh} : a ∈ ρ ↔ a ∈ ρ.c ∨ a ∈ ρ.z := Iff.rfl
def Rh.at (ρ : Rh) (n : Nat) : Option Addr := ρ.c[n]?
/-- one more -/
def Rh.more (ρ : Rh) (p : Addr) : Rh := ⟨ρ.c ++ [p], ρ.z⟩
/-- one more that is hidden -/
def Rh.hide (ρ : Rh) (p : Addr) : Rh := ⟨ρ.c, p :: ρ.z⟩
theorem Rh.at_mem {ρ : Rh} {n : Nat} {a : Addr} (h : ρ.at n = some a) : a ∈ ρ := .inl (List.mem_iff_getElem?.mpr ⟨n, h⟩)
mutual
/-- the value v is the data, in the heap H; the mutable objects at ρ -/
inductive Rep (K : Bs) (ρ : Rh) (H : Hp) : D → V → Prop
  | non : Rep K ρ H .non .non
  | bl (b : Bool) : Rep K ρ H (.bl b) (.bl b)
  | int (i : Int) : Rep K ρ H (.int i) (.int i)
  | str (x : Str) : Rep K ρ H (.str x) (.str x)
  | tup {a : Addr} {ds : List D} {vs : List V} : a ∉ ρ → H a = some (.tup vs) → RepL K ρ H ds vs → Rep K ρ H (.tup ds) (.ref a)
  | lst {a : Addr} {ds : List D} {vs : List V} : a ∉ ρ → H a = some (.lst vs) → RepL K ρ H ds vs → Rep K ρ H (.lst ds) (.ref a)
  | scr {a : Addr} {o : Obj} {ns : List Int} : a ∉ ρ → H a = some (.frz o (.lst (ns.map V.int))) → Rep K ρ H (.scr ns) (.ref a)
  | ins {a dx : Addr} {c : Str} {ns : List Str} {ds : List D} {vs : List V} : c ∈ K.cls → a ∉ ρ → H a = some (.ins (He.ga K.K c) dx (ns.zip vs)) → ns.length = vs.length → RepL K ρ H ds vs → Rep K ρ H (.ins c ns ds) (.ref a)
  | cell {n : Nat} {a : Addr} : ρ.at n = some a → Rep K ρ H (.cell n) (.ref a)
inductive RepL (K : Bs) (ρ : Rh) (H : Hp) : List D → List V → Prop
  | nil : RepL K ρ H [] []
  | cons {d : D} {v : V} {ds : List D} {vs : List V} : Rep K ρ H d v → RepL K ρ H ds vs → RepL K ρ H (d :: ds) (v :: vs)
end

/-- what is locked stands as it is -/
def Fz (H H' : Hp) : Prop := ∀ a o u, H a = some (.frz o u) → H' a = some (.frz o u)
/-- the heap has gone on: what was tracked and no mutable object stands; new mutable objects are new; hidden ones stand -/
structure Ext (ρ : Rh) (H : Hp) (ρ' : Rh) (H' : Hp) : Prop where
  pre : ∃ t, ρ'.c = ρ.c ++ t
  hid : ρ'.z = ρ.z
  new : ∀ a ∈ ρ', a ∉ ρ → H a = none
  keep : ∀ a o, H a = some o → a ∉ ρ → H' a = some o
  same : ∀ a ∈ ρ.z, H' a = H a
  frz : Fz H H'
variable {K : Bs} {ρ ρ' ρ1 ρ2 : Rh} {H H' H1 H2 : Hp}
theorem Ext.refl : Ext ρ H ρ H := ⟨⟨[], by simp⟩, rfl, fun a h n => absurd h n, fun _ _ e _ => e, fun _ _ => rfl, fun _ _ _ e => e⟩
theorem Ext.out (e : Ext ρ H ρ' H') {a : Addr} {o : HO} (h : H a = some o) (n : a ∉ ρ) : a ∉ ρ' := fun m => by
  rw [e.new a m n] at h; cases h
theorem Ext.trans (a : Ext ρ H ρ1 H1) (b : Ext ρ1 H1 ρ2 H2) : Ext ρ H ρ2 H2 := by
  obtain ⟨t, et⟩ := a.pre
  obtain ⟨u, eu⟩ := b.pre
  refine ⟨⟨t ++ u, by rw [eu, et, List.append_assoc]⟩, b.hid.trans a.hid, fun x m n => ?_, fun x o e n => b.keep x o (a.keep x o e n) (a.out e n), fun x m => ?_, fun x o u e => b.frz x o u (a.frz x o u e)⟩
  · by_cases q : x ∈ ρ1
    · exact a.new x q n
    · cases h : H x with
      | none => rfl
      | some o =>
        have := b.new x m q
        rw [a.keep x o h n] at this; cases this
  · rw [b.same x (by rw [a.hid]; exact m), a.same x m]
theorem Ext.at_ (e : Ext ρ H ρ' H') {n : Nat} {a : Addr} (h : ρ.at n = some a) : ρ'.at n = some a := by
  obtain ⟨t, et⟩ := e.pre
  have h' : ρ.c[n]? = some a := h
  show ρ'.c[n]? = some a
  rw [et, List.getElem?_append_left (List.getElem?_eq_some_iff.mp h').1]
  exact h'
/-- data goes over where its objects stand and stay no mutable ones -/
structure Mv (ρ : Rh) (H : Hp) (ρ' : Rh) (H' : Hp) : Prop where
  key : ∀ a u, H a = some u → a ∉ ρ → a ∉ ρ' ∧ H' a = some u
  at_ : ∀ n a, ρ.at n = some a → ρ'.at n = some a
mutual
theorem Rep.move (m : Mv ρ H ρ' H') : ∀ (d : D) (v : V), Rep K ρ H d v → Rep K ρ' H' d v
  | .non, _, h => by cases h; exact .non
  | .bl b, _, h => by cases h; exact .bl b
  | .int b, _, h => by cases h; exact .int b
  | .str b, _, h => by cases h; exact .str b
  | .tup ds, _, h => by
    cases h with
    | tup n q r => exact .tup (m.key _ _ q n).1 (m.key _ _ q n).2 (RepL.move m ds _ r)
  | .lst ds, _, h => by
    cases h with
    | lst n q r => exact .lst (m.key _ _ q n).1 (m.key _ _ q n).2 (RepL.move m ds _ r)
  | .scr ns, _, h => by
    cases h with
    | scr n q => exact .scr (m.key _ _ q n).1 (m.key _ _ q n).2
  | .ins c ns ds, _, h => by
    cases h with
    | ins z n q l r => exact .ins z (m.key _ _ q n).1 (m.key _ _ q n).2 l (RepL.move m ds _ r)
  | .cell k, _, h => by
    cases h with
    | cell q => exact .cell (m.at_ _ _ q)
theorem RepL.move (m : Mv ρ H ρ' H') : ∀ (ds : List D) (vs : List V), RepL K ρ H ds vs → RepL K ρ' H' ds vs
  | [], _, h => by cases h; exact .nil
  | d :: ds, _, h => by
    cases h with
    | cons a r => exact .cons (Rep.move m d _ a) (RepL.move m ds _ r)
end
theorem Ext.mv (e : Ext ρ H ρ' H') : Mv ρ H ρ' H' := ⟨fun a u q n => ⟨e.out q n, e.keep a u q n⟩, fun n a q => e.at_ q⟩
theorem Rep.mono (e : Ext ρ H ρ' H') (d : D) (v : V) (h : Rep K ρ H d v) : Rep K ρ' H' d v := Rep.move e.mv d v h
theorem RepL.mono (e : Ext ρ H ρ' H') (d : List D) (v : List V) (h : RepL K ρ H d v) : RepL K ρ' H' d v := RepL.move e.mv d v h
theorem RepL.len : ∀ {ds : List D} {vs : List V}, RepL K ρ H ds vs → ds.length = vs.length
  | _, _, .nil => rfl
  | _, _, .cons _ r => by simp [RepL.len r]
theorem RepL.get : ∀ {ds : List D} {vs : List V} {i : Nat} {d : D}, RepL K ρ H ds vs → ds[i]? = some d → ∃ v, vs[i]? = some v ∧ Rep K ρ H d v
  | _, _, _, _, .nil, e => by simp at e
  | _, _, 0, d, .cons r _, e => by simp at e; subst e; exact ⟨_, rfl, r⟩
  | _, _, i + 1, d, .cons _ t, e => by
    obtain ⟨u, h1, h2⟩ := RepL.get (i := i) (d := d) t (by simpa using e)
    exact ⟨u, by simpa using h1, h2⟩
theorem RepL.getV : ∀ {ds : List D} {vs : List V} {i : Nat} {v : V}, RepL K ρ H ds vs → vs[i]? = some v → ∃ d, ds[i]? = some d ∧ Rep K ρ H d v
  | _, _, _, _, .nil, e => by simp at e
  | _, _, 0, d, .cons r _, e => by simp at e; subst e; exact ⟨_, rfl, r⟩
  | _, _, i + 1, d, .cons _ t, e => by
    obtain ⟨u, h1, h2⟩ := RepL.getV (i := i) (v := d) t (by simpa using e)
    exact ⟨u, by simpa using h1, h2⟩
theorem RepL.append : ∀ {ds es : List D} {vs ws : List V}, RepL K ρ H ds vs → RepL K ρ H es ws → RepL K ρ H (ds ++ es) (vs ++ ws)
  | _, _, _, _, .nil, s => s
  | _, _, _, _, .cons r t, s => .cons r (RepL.append t s)
theorem RepL.take : ∀ {ds : List D} {vs : List V} (n : Nat), RepL K ρ H ds vs → RepL K ρ H (ds.take n) (vs.take n)
  | _, _, 0, _ => .nil
  | _, _, _ + 1, .nil => .nil
  | _, _, n + 1, .cons r t => .cons r (RepL.take n t)
theorem RepL.drop : ∀ {ds : List D} {vs : List V} (n : Nat), RepL K ρ H ds vs → RepL K ρ H (ds.drop n) (vs.drop n)
  | _, _, 0, r => r
  | _, _, _ + 1, .nil => .nil
  | _, _, n + 1, .cons _ t => RepL.drop n t
theorem RepL.set {d : D} {v : V} (r : Rep K ρ H d v) : ∀ {ds : List D} {vs : List V} (i : Nat), RepL K ρ H ds vs → RepL K ρ H (ds.set i d) (vs.set i v)
  | _, _, _, .nil => .nil
  | _, _, 0, .cons _ t => .cons r t
  | _, _, i + 1, .cons q t => .cons q (RepL.set r i t)
theorem RepL.eraseIdx : ∀ {ds : List D} {vs : List V} (i : Nat), RepL K ρ H ds vs → RepL K ρ H (ds.eraseIdx i) (vs.eraseIdx i)
  | _, _, _, .nil => .nil
  | _, _, 0, .cons _ t => t
  | _, _, i + 1, .cons q t => .cons q (RepL.eraseIdx i t)
theorem RepL.reverse {ds : List D} {vs : List V} (h : RepL K ρ H ds vs) : RepL K ρ H ds.reverse vs.reverse := by
  induction ds generalizing vs with
  | nil => cases h; exact .nil
  | cons d ds ih =>
    cases h with
    | cons r t => simp only [List.reverse_cons]; exact (ih t).append (.cons r .nil)

/-! ### 2. the mutable objects -/
def KRep (K : Bs) (ρ : Rh) (H : Hp) : List (Key × D) → List (Key × V) → Prop := Paired fun p q => p.1 = q.1 ∧ Rep K ρ H p.2 q.2
def FRep (K : Bs) (ρ : Rh) (H : Hp) : List (Str × D) → List (Str × V) → Prop := Paired fun p q => p.1 = q.1 ∧ Rep K ρ H p.2 q.2
inductive CRep (K : Bs) (ρ : Rh) (H : Hp) : CV → Addr → Prop
  | lst {a : Addr} {ds : List D} {vs : List V} : H a = some (.lst vs) → RepL K ρ H ds vs → CRep K ρ H (.lst ds) a
  | dic {a : Addr} {kvs : List (Key × D)} {kws : List (Key × V)} : H a = some (.dK kws) → KRep K ρ H kvs kws → CRep K ρ H (.dic false kvs) a
  | lck {a : Addr} {o : Obj} {kvs : List (Key × D)} {kws : List (Key × V)} : H a = some (.frz o (.dK kws)) → KRep K ρ H kvs kws → CRep K ρ H (.dic true kvs) a
  | ins {a dx : Addr} {c : Str} {fs : List (Str × D)} {ws : List (Str × V)} : c ∈ K.cls → H a = some (.ins (He.ga K.K c) dx ws) → FRep K ρ H fs ws → CRep K ρ H (.ins c fs) a
theorem FRep.mono (e : Ext ρ H ρ' H') {a : List (Str × D)} {b : List (Str × V)} (h : FRep K ρ H a b) : FRep K ρ' H' a b := Paired.mapP h fun _ _ q => ⟨q.1, Rep.mono e _ _ q.2⟩
theorem KRep.mono (e : Ext ρ H ρ' H') {a : List (Key × D)} {b : List (Key × V)} (h : KRep K ρ H a b) : KRep K ρ' H' a b := Paired.mapP h fun _ _ q => ⟨q.1, Rep.mono e _ _ q.2⟩
structure Sim (K : Bs) (ρ : Rh) (S : Store) (H : Hp) : Prop where
  nd : (ρ.c ++ ρ.z).Nodup
  len : ρ.c.length = S.length
  at_ : ∀ (n : Nat) (a : Addr) (c : CV), ρ.at n = some a → S[n]? = some c → CRep K ρ H c a
  hz : ∀ a ∈ ρ.z, ∃ o, H a = some o
theorem Sim.ndc {S : Store} (s : Sim K ρ S H) : ρ.c.Nodup := (List.nodup_append.mp s.nd).1
theorem Sim.apart {S : Store} (s : Sim K ρ S H) {a : Addr} (h1 : a ∈ ρ.c) (h2 : a ∈ ρ.z) : False := (List.nodup_append.mp s.nd).2.2 a h1 a h2 rfl
theorem Sim.get {S : Store} (s : Sim K ρ S H) {n : Nat} {a : Addr} (h : ρ.at n = some a) : ∃ c, S[n]? = some c ∧ CRep K ρ H c a := by
  have l : n < S.length := by rw [← s.len]; exact (List.getElem?_eq_some_iff.mp h).1
  exact ⟨S[n], by simp [l], s.at_ n a _ h (by simp [l])⟩
theorem CRep.there {c : CV} {a : Addr} (r : CRep K ρ H c a) : ∃ o, H a = some o := by
  cases r with
  | lst q _ => exact ⟨_, q⟩
  | dic q _ => exact ⟨_, q⟩
  | lck q _ => exact ⟨_, q⟩
  | ins _ q _ => exact ⟨_, q⟩
theorem Sim.there {S : Store} (s : Sim K ρ S H) {a : Addr} (h : a ∈ ρ) : ∃ o, H a = some o := by
  rcases h with h | h
  · obtain ⟨n, e⟩ := List.mem_iff_getElem?.mp h
    obtain ⟨c, _, r⟩ := s.get (n := n) (a := a) e
    exact r.there
  · exact s.hz a h
theorem Sim.fresh {S : Store} (s : Sim K ρ S H) {p : Addr} (h : H p = none) : p ∉ ρ := fun m => by
  obtain ⟨o, e⟩ := s.there m
  rw [h] at e; cases e
theorem Sim.ne {S : Store} (s : Sim K ρ S H) {p a : Addr} (h : H p = none) (m : a ∈ ρ) : a ≠ p := fun e => s.fresh h (e ▸ m)
/-- a new object that is no mutable one -/
theorem Ext.alloc {S : Store} (s : Sim K ρ S H) {p : Addr} (o : HO) (h : H p = none) : Ext ρ H ρ (upd H p o) :=
  ⟨⟨[], by simp⟩, rfl, fun a m n => absurd m n, fun a u e _ => by rw [upd_ne (ne_of_none e h)]; exact e, fun a m => upd_ne (s.ne h (.inr m)), fun a o' u e => by rw [upd_ne (ne_of_none e h)]; exact e⟩
theorem CRep.mono {c : CV} {a : Addr} (e : Ext ρ H ρ' H') (k : H' a = H a) (r : CRep K ρ H c a) : CRep K ρ' H' c a := by
  cases r with
  | lst q r => exact .lst (k.trans q) (RepL.mono e _ _ r)
  | dic q r => exact .dic (k.trans q) (KRep.mono e r)
  | lck q r => exact .lck (k.trans q) (KRep.mono e r)
  | ins z q r => exact .ins z (k.trans q) (FRep.mono e r)
theorem Sim.mono {S : Store} (s : Sim K ρ S H) (e : Ext ρ H ρ H') (k : ∀ a ∈ ρ.c, H' a = H a) : Sim K ρ S H' :=
  ⟨s.nd, s.len, fun n a c h1 h2 => (s.at_ n a c h1 h2).mono e (k a (List.mem_iff_getElem?.mpr ⟨n, h1⟩)), fun a m => by rw [e.same a m]; exact s.hz a m⟩
theorem Sim.alloc {S : Store} (s : Sim K ρ S H) {p : Addr} (o : HO) (h : H p = none) : Sim K ρ S (upd H p o) :=
  s.mono (Ext.alloc s o h) fun a m => upd_ne (s.ne h (.inl m))
/-- a new mutable object -/
theorem Ext.allocC {S : Store} (s : Sim K ρ S H) {p : Addr} (o : HO) (h : H p = none) : Ext ρ H (ρ.more p) (upd H p o) :=
  ⟨⟨[p], rfl⟩, rfl, fun a m n => by
    rcases m with m | m
    · rcases List.mem_append.mp m with m | m
      · exact absurd (.inl m) n
      · have : a = p := by simpa using m
        subst this; exact h
    · exact absurd (.inr m) n, fun a u e _ => by rw [upd_ne (ne_of_none e h)]; exact e, fun a m => upd_ne (s.ne h (.inr m)), fun a o' u e => by rw [upd_ne (ne_of_none e h)]; exact e⟩
theorem more_at (ρ : Rh) (p : Addr) : (ρ.more p).at ρ.c.length = some p := by
  show (ρ.c ++ [p])[ρ.c.length]? = some p
  simp
theorem Sim.allocC {S : Store} (s : Sim K ρ S H) {p : Addr} {o : HO} {c : CV} (h : H p = none) (hc : CRep K (ρ.more p) (upd H p o) c p) : Sim K (ρ.more p) (S ++ [c]) (upd H p o) := by
  have e := Ext.allocC s o h
  refine ⟨?_, by simp [Rh.more, s.len], fun n a c' h1 h2 => ?_, fun a m => ?_⟩
  · obtain ⟨n1, n2, n3⟩ := List.nodup_append.mp s.nd
    refine List.nodup_append.mpr ⟨List.nodup_append.mpr ⟨n1, by simp, fun a m b m' eq => ?_⟩, n2, fun a m b m' eq => ?_⟩
    · have : b = p := by simpa using m'
      subst this; subst eq; exact s.fresh h (.inl m)
    · rcases List.mem_append.mp m with m | m
      · exact n3 a m b m' eq
      · have : a = p := by simpa using m
        subst this; subst eq; exact s.fresh h (.inr m')
  · have h1' : (ρ.c ++ [p])[n]? = some a := h1
    by_cases l : n < ρ.c.length
    · rw [List.getElem?_append_left l] at h1'
      rw [List.getElem?_append_left (by rw [← s.len]; exact l)] at h2
      exact (s.at_ n a c' h1' h2).mono e (upd_ne (s.ne h (.inl (List.mem_iff_getElem?.mpr ⟨n, h1'⟩))))
    · rw [List.getElem?_append_right (by omega)] at h1'
      rw [List.getElem?_append_right (by rw [← s.len]; omega)] at h2
      rw [← s.len] at h2
      have e0 : n - ρ.c.length = 0 := by
        have := (List.getElem?_eq_some_iff.mp h1').1
        simp at this; omega
      rw [e0] at h1' h2
      simp at h1' h2
      subst h1'; subst h2; exact hc
  · have m' : a ∈ ρ.z := m
    rw [upd_ne (s.ne h (.inr m'))]
    exact s.hz a m'
/-- a mutable object is written -/
theorem Ext.write {S : Store} (s : Sim K ρ S H) {a : Addr} (o : HO) (m : a ∈ ρ.c) (nf : ∀ o' u, H a ≠ some (.frz o' u)) : Ext ρ H ρ (upd H a o) :=
  ⟨⟨[], by simp⟩, rfl, fun _ m n => absurd m n, fun b u e n => by rw [upd_ne (fun (z : b = a) => n (by rw [z]; exact .inl m))]; exact e, fun b mb => upd_ne fun (z : b = a) => s.apart m (z ▸ mb), fun b o' u e => by rw [upd_ne (fun (z : b = a) => nf o' u (z ▸ e))]; exact e⟩
theorem nodup_at {l : List Addr} (h : l.Nodup) {i j : Nat} {x : Addr} (a : l[i]? = some x) (b : l[j]? = some x) : i = j := nd_ix h a b
/-! hidden objects -/
theorem FRep.move (m : Mv ρ H ρ' H') {a : List (Str × D)} {b : List (Str × V)} (h : FRep K ρ H a b) : FRep K ρ' H' a b := Paired.mapP h fun _ _ q => ⟨q.1, Rep.move m _ _ q.2⟩
theorem KRep.move (m : Mv ρ H ρ' H') {a : List (Key × D)} {b : List (Key × V)} (h : KRep K ρ H a b) : KRep K ρ' H' a b := Paired.mapP h fun _ _ q => ⟨q.1, Rep.move m _ _ q.2⟩
theorem CRep.move {c : CV} {a : Addr} (m : Mv ρ H ρ' H') (k : H' a = H a) (r : CRep K ρ H c a) : CRep K ρ' H' c a := by
  cases r with
  | lst q r => exact .lst (k.trans q) (RepL.move m _ _ r)
  | dic q r => exact .dic (k.trans q) (KRep.move m r)
  | lck q r => exact .lck (k.trans q) (KRep.move m r)
  | ins z q r => exact .ins z (k.trans q) (FRep.move m r)
/-- a mutable object is written: data goes over -/
theorem Mv.write {a : Addr} (o : HO) (m : a ∈ ρ.c) : Mv ρ H ρ (upd H a o) :=
  ⟨fun b u e n => ⟨n, by rw [upd_ne (fun (z : b = a) => n (by rw [z]; exact .inl m))]; exact e⟩, fun _ _ q => q⟩
theorem Sim.write {S : Store} (s : Sim K ρ S H) {n : Nat} {a : Addr} {o : HO} {c : CV} (h : ρ.at n = some a) (hc : CRep K ρ (upd H a o) c a) : Sim K ρ (S.set n c) (upd H a o) := by
  have m : a ∈ ρ.c := List.mem_iff_getElem?.mpr ⟨n, h⟩
  refine ⟨s.nd, by simp [s.len], fun k b c' h1 h2 => ?_, fun b mb => by rw [upd_ne (fun z : b = a => s.apart m (z ▸ mb))]; exact s.hz b mb⟩
  by_cases q : k = n
  · subst q
    have h0 : some a = some b := (show ρ.at k = some a from h).symm.trans h1
    cases h0
    have l : k < S.length := by rw [← s.len]; exact (List.getElem?_eq_some_iff.mp h).1
    rw [List.getElem?_set_self l] at h2
    cases h2; exact hc
  · rw [List.getElem?_set_ne (Ne.symm q)] at h2
    exact (s.at_ k b c' h1 h2).move (Mv.write o m) (upd_ne fun z => q (nodup_at s.ndc h1 (z ▸ h)))
/-- a new hidden object -/
theorem Mv.hide {p : Addr} (o : HO) (h : H p = none) : Mv ρ H (ρ.hide p) (upd H p o) := by
  refine ⟨fun a u e n => ?_, fun _ _ q => q⟩
  have ne : a ≠ p := ne_of_none e h
  refine ⟨fun m => ?_, by rw [upd_ne ne]; exact e⟩
  rcases m with m | m
  · exact n (.inl m)
  · rcases List.mem_cons.mp m with m | m
    · exact ne m
    · exact n (.inr m)
theorem Sim.hide {S : Store} (s : Sim K ρ S H) {p : Addr} (o : HO) (h : H p = none) : Sim K (ρ.hide p) S (upd H p o) := by
  refine ⟨?_, s.len, fun n a c h1 h2 => (s.at_ n a c h1 h2).move (Mv.hide o h) (upd_ne (s.ne h (.inl (List.mem_iff_getElem?.mpr ⟨n, h1⟩)))), fun a m => ?_⟩
  · obtain ⟨n1, n2, n3⟩ := List.nodup_append.mp s.nd
    refine List.nodup_append.mpr ⟨n1, List.nodup_cons.mpr ⟨fun m => s.fresh h (.inr m), n2⟩, fun a m b m' e => ?_⟩
    rcases List.mem_cons.mp m' with q | q
    · subst q; subst e
      exact s.fresh h (.inl m)
    · exact n3 a m b q e
  · rcases List.mem_cons.mp m with q | q
    · subst q
      exact ⟨o, upd_same⟩
    · rw [upd_ne (s.ne h (.inr q))]
      exact s.hz a q
/-- a hidden object is written -/
theorem Mv.hwrite {p : Addr} (o : HO) (m : p ∈ ρ.z) : Mv ρ H ρ (upd H p o) :=
  ⟨fun a u e n => ⟨n, by rw [upd_ne (fun (z : a = p) => n (by rw [z]; exact .inr m))]; exact e⟩, fun _ _ q => q⟩
theorem Sim.hwrite {S : Store} (s : Sim K ρ S H) {p : Addr} (o : HO) (m : p ∈ ρ.z) : Sim K ρ S (upd H p o) := by
  refine ⟨s.nd, s.len, fun n a c h1 h2 => (s.at_ n a c h1 h2).move (Mv.hwrite o m) (upd_ne fun (z : a = p) => s.apart (List.mem_iff_getElem?.mpr ⟨n, h1⟩) (z ▸ m)), fun a q => ?_⟩
  by_cases e : a = p
  · subst e
    exact ⟨o, upd_same⟩
  · rw [upd_ne e]
    exact s.hz a q
/-- it is hidden no more -/
def Rh.show (ρ : Rh) : Rh := ⟨ρ.c, ρ.z.tail⟩
theorem Mv.show : Mv ρ H ρ.show H := ⟨fun a u e n => ⟨fun m => by
  rcases m with m | m
  · exact n (.inl m)
  · exact n (.inr (List.mem_of_mem_tail m)), e⟩, fun _ _ q => q⟩
theorem Sim.show {S : Store} (s : Sim K ρ S H) : Sim K ρ.show S H := by
  refine ⟨?_, s.len, fun n a c h1 h2 => (s.at_ n a c h1 h2).move Mv.show rfl, fun a q => s.hz a (List.mem_of_mem_tail q)⟩
  obtain ⟨n1, n2, n3⟩ := List.nodup_append.mp s.nd
  refine List.nodup_append.mpr ⟨n1, ?_, fun a m b m' e => n3 a m b (List.mem_of_mem_tail m') e⟩
  cases q : ρ.z with
  | nil =>
    show (ρ.z.tail).Nodup
    rw [q]
    exact List.nodup_nil
  | cons x t =>
    show (ρ.z.tail).Nodup
    rw [q] at n2 ⊢
    exact (List.nodup_cons.mp n2).2
/-- a hidden list becomes the newest mutable object -/
theorem Mv.reveal {p : Addr} {z : List Addr} (hz : ρ.z = p :: z) : Mv ρ H (ρ.show.more p) H := by
  refine ⟨fun a u e n => ⟨fun m => ?_, e⟩, fun n a q => ?_⟩
  · rcases m with m | m
    · rcases List.mem_append.mp m with m | m
      · exact n (.inl m)
      · have : a = p := by simpa using m
        exact n (.inr (by rw [hz, this]; exact List.mem_cons_self))
    · exact n (.inr (List.mem_of_mem_tail m))
  · have q' : ρ.c[n]? = some a := q
    show (ρ.c ++ [p])[n]? = some a
    rw [List.getElem?_append_left (List.getElem?_eq_some_iff.mp q').1]
    exact q'
theorem Sim.reveal {S : Store} (s : Sim K ρ S H) {p : Addr} {z : List Addr} (hz : ρ.z = p :: z) {c : CV} (hc : CRep K ρ H c p) : Sim K (ρ.show.more p) (S ++ [c]) H := by
  have mv : Mv ρ H (ρ.show.more p) H := Mv.reveal hz
  obtain ⟨n1, n2, n3⟩ := List.nodup_append.mp s.nd
  rw [hz] at n2 n3
  have sz : (ρ.show.more p).z = z := by show ρ.z.tail = z; rw [hz] <;> rfl
  refine ⟨?_, ?_, fun n a c' h1 h2 => ?_, fun a m => ?_⟩
  · rw [sz]
    refine List.nodup_append.mpr ⟨List.nodup_append.mpr ⟨n1, by simp, fun a m b m' e => ?_⟩, (List.nodup_cons.mp n2).2, fun a m b m' e => ?_⟩
    · have : b = p := by simpa using m'
      exact n3 a m p List.mem_cons_self (e.trans this)
    · rcases List.mem_append.mp m with m | m
      · exact n3 a m b (List.mem_cons_of_mem _ m') e
      · have : a = p := by simpa using m
        subst this; subst e
        exact (List.nodup_cons.mp n2).1 m'
  · show (ρ.c ++ [p]).length = _
    rw [List.length_append, List.length_append, s.len] <;> rfl
  · have h1' : (ρ.c ++ [p])[n]? = some a := h1
    by_cases l : n < ρ.c.length
    · rw [List.getElem?_append_left l] at h1'
      rw [List.getElem?_append_left (by rw [← s.len]; exact l)] at h2
      exact (s.at_ n a c' h1' h2).move mv rfl
    · rw [List.getElem?_append_right (by omega)] at h1'
      rw [List.getElem?_append_right (by rw [← s.len]; omega)] at h2
      rw [← s.len] at h2
      have e0 : n - ρ.c.length = 0 := by
        have := (List.getElem?_eq_some_iff.mp h1').1
        simp at this; omega
      rw [e0] at h1' h2
      simp at h1' h2
      subst h1'; subst h2; exact hc.move mv rfl
  · rw [sz] at m
    exact s.hz a (by rw [hz]; exact List.mem_cons_of_mem _ m)
/-- through a hidden object's life: p was new, ρ' hides it -/
structure Mid (ρ : Rh) (H : Hp) (p : Addr) (ρ' : Rh) (H' : Hp) : Prop where
  ex : Ext ρ H ρ'.show H'
  z : ρ'.z = p :: ρ.z
theorem Mid.start {S : Store} (s : Sim K ρ S H) {p : Addr} (o : HO) (h : H p = none) : Mid ρ H p (ρ.hide p) (upd H p o) :=
  ⟨⟨⟨[], by simp [Rh.show, Rh.hide]⟩, rfl, fun a m n => absurd m n, fun a u e _ => by rw [upd_ne (ne_of_none e h)]; exact e, fun a m => upd_ne (s.ne h (.inr m)), fun a o' u e => by rw [upd_ne (ne_of_none e h)]; exact e⟩, rfl⟩
theorem Mid.go {p : Addr} (a : Mid ρ H p ρ1 H1) (e : Ext ρ1 H1 ρ2 H2) (np : H p = none) : Mid ρ H p ρ2 H2 := by
  have z2 : ρ2.z = p :: ρ.z := e.hid.trans a.z
  have s1 : ρ1.show.z = ρ.z := by show ρ1.z.tail = ρ.z; rw [a.z] <;> rfl
  have s2 : ρ2.show.z = ρ.z := by show ρ2.z.tail = ρ.z; rw [z2] <;> rfl
  obtain ⟨t, et⟩ := a.ex.pre
  obtain ⟨u, eu⟩ := e.pre
  have notin : ∀ x o, H x = some o → x ∉ ρ → x ∉ ρ1 := fun x o q n m => by
    rcases m with m | m
    · rw [a.ex.new x (.inl m) n] at q; cases q
    · rw [a.z] at m
      rcases List.mem_cons.mp m with m | m
      · subst m; rw [np] at q; cases q
      · exact n (.inr m)
  refine ⟨⟨⟨t ++ u, by show ρ2.c = _; rw [eu, show ρ1.c = ρ1.show.c from rfl, et, List.append_assoc]⟩, s2, fun x m n => ?_, fun x o q n => e.keep x o (a.ex.keep x o q n) (notin x o q n), fun x m => ?_, fun x o u q => e.frz x o u (a.ex.frz x o u q)⟩, z2⟩
  · cases h : H x with
    | none => rfl
    | some o =>
      have n1 := notin x o h n
      have := e.new x (by
        rcases m with m | m
        · exact .inl m
        · rw [s2] at m
          exact absurd (.inr m) n) n1
      rw [a.ex.keep x o h n] at this; cases this
  · rw [e.same x (by rw [a.z]; exact List.mem_cons_of_mem _ m), a.ex.same x m]
theorem Mid.write {p : Addr} (a : Mid ρ H p ρ1 H1) (o : HO) (np : H p = none) (hp : p ∉ ρ) : Mid ρ H p ρ1 (upd H1 p o) :=
  ⟨⟨a.ex.pre, a.ex.hid, a.ex.new, fun x u q n => by rw [upd_ne (ne_of_none q np)]; exact a.ex.keep x u q n, fun x m => by rw [upd_ne (fun (z : x = p) => hp (z ▸ .inr m))]; exact a.ex.same x m, fun x o' u q => by rw [upd_ne (ne_of_none q np)]; exact a.ex.frz x o' u q⟩, a.z⟩
/-! ### 3. what a run gives -/
/-- an exception: its class, its fields -/
structure Exn where
  cls : Str
  fs : List (Str × D)
inductive Out (α : Type) where
  | ok (a : α) (S : Store)
  | exc (x : Exn) (S : Store)
  | stuck
def M (α : Type) := Store → Out α
def M.pure {α : Type} (a : α) : M α := fun S => .ok a S
def M.bind {α β : Type} (m : M α) (f : α → M β) : M β := fun S => match m S with
  | .ok a S' => f a S'
  | .exc x S' => .exc x S'
  | .stuck => .stuck
instance : Monad M where
  pure := M.pure
  bind := M.bind
theorem M.bind_of {α β : Type} {m : M α} {f : α → M β} {S S1 : Store} {a : α} (h : m S = .ok a S1) : M.bind m f S = f a S1 := by
  unfold M.bind
  rw [h]
theorem M.bind_ok {α β : Type} {m : M α} {f : α → M β} {S S' : Store} {b : β} (h : M.bind m f S = .ok b S') : ∃ a S1, m S = .ok a S1 ∧ f a S1 = .ok b S' := by
  unfold M.bind at h
  cases e : m S with
  | ok u S2 => rw [e] at h; exact ⟨u, S2, rfl, h⟩
  | exc x S2 => rw [e] at h; cases h
  | stuck => rw [e] at h; cases h
theorem M.bind_exc {α β : Type} {m : M α} {f : α → M β} {S S' : Store} {x : Exn} (h : M.bind m f S = .exc x S') : m S = .exc x S' ∨ ∃ a S1, m S = .ok a S1 ∧ f a S1 = .exc x S' := by
  unfold M.bind at h
  cases e : m S with
  | ok u S2 => rw [e] at h; exact .inr ⟨u, S2, rfl, h⟩
  | exc y S2 => rw [e] at h; cases h; exact .inl rfl
  | stuck => rw [e] at h; cases h
theorem M.bind_assoc {α β γ : Type} (m : M α) (f : α → M β) (h : β → M γ) : M.bind (M.bind m f) h = M.bind m fun a => M.bind (f a) h := by
  funext S
  unfold M.bind
  cases m S <;> rfl
theorem M.pure_ok {α : Type} {a b : α} {S S' : Store} (h : M.pure a S = .ok b S') : b = a ∧ S' = S := by
  unfold M.pure at h
  cases h
  exact ⟨rfl, rfl⟩
theorem M.pure_exc {α : Type} {a : α} {S S' : Store} {x : Exn} (h : M.pure a S = .exc x S') : False := by
  unfold M.pure at h
  cases h
def M.fail {α : Type} : M α := fun _ => .stuck
def M.opt {α : Type} : Option α → M α
  | some a => M.pure a
  | none => M.fail
def M.need (b : Bool) : M Unit := if b then M.pure () else M.fail
/-- all ways out of r are wanted -/
def Go {α : Type} (K : Bs) (ρ : Rh) (H : Hp) (r : Out α) (k : α → Rh → Store → Hp → Prop) (kx : Exn → Rh → Store → Hp → Prop) : Prop := match r with
  | .ok a S' => ∀ ρ' H', Ext ρ H ρ' H' → Sim K ρ' S' H' → k a ρ' S' H'
  | .exc x S' => ∀ ρ' H', Ext ρ H ρ' H' → Sim K ρ' S' H' → kx x ρ' S' H'
  | .stuck => False
variable {α β : Type}
theorem Go.later {r : Out α} {k : α → Rh → Store → Hp → Prop} {kx : Exn → Rh → Store → Hp → Prop} (e : Ext ρ H ρ' H') (g : Go K ρ H r k kx) : Go K ρ' H' r k kx := by
  cases r with
  | ok a S => exact fun ρ2 H2 e2 s2 => g ρ2 H2 (e.trans e2) s2
  | exc a S => exact fun ρ2 H2 e2 s2 => g ρ2 H2 (e.trans e2) s2
  | stuck => exact g
theorem Go.imp {r : Out α} {k k' : α → Rh → Store → Hp → Prop} {kx kx' : Exn → Rh → Store → Hp → Prop} (g : Go K ρ H r k kx)
    (h : ∀ a ρ' S' H', Ext ρ H ρ' H' → Sim K ρ' S' H' → k a ρ' S' H' → k' a ρ' S' H') (hx : ∀ x ρ' S' H', Ext ρ H ρ' H' → Sim K ρ' S' H' → kx x ρ' S' H' → kx' x ρ' S' H') : Go K ρ H r k' kx' := by
  cases r with
  | ok a S => exact fun ρ2 H2 e2 s2 => h _ _ _ _ e2 s2 (g ρ2 H2 e2 s2)
  | exc a S => exact fun ρ2 H2 e2 s2 => hx _ _ _ _ e2 s2 (g ρ2 H2 e2 s2)
  | stuck => exact g
theorem Go.bind {m : M α} {f : α → M β} {S : Store} {k : β → Rh → Store → Hp → Prop} {kx : Exn → Rh → Store → Hp → Prop} (g : Go K ρ H ((m >>= f) S) k kx) :
    Go K ρ H (m S) (fun a ρ' S' H' => Go K ρ' H' (f a S') k kx) kx := by
  have g' : Go K ρ H (M.bind m f S) k kx := g
  unfold M.bind at g'
  cases e : m S with
  | ok a S' =>
    rw [e] at g'
    exact fun ρ2 H2 e2 s2 => Go.later e2 g'
  | exc x S' =>
    rw [e] at g'
    exact g'
  | stuck =>
    rw [e] at g'
    exact g'
/-- at once -/
theorem Go.now {a : α} {S : Store} {k : α → Rh → Store → Hp → Prop} {kx : Exn → Rh → Store → Hp → Prop} (s : Sim K ρ S H) (g : Go K ρ H (.ok a S) k kx) : k a ρ S H := g ρ H .refl s
/-! ### 4. slots -/
def RepS (K : Bs) (ρ : Rh) (H : Hp) (env : List (Option D)) (σ : L2.St) : Prop :=
  σ.length = env.length ∧ ∀ (i : Nat) (d : D), env[i]? = some (some d) → ∃ v, σ[i]? = some (some v) ∧ Rep K ρ H d v
theorem RepS.mono (e : Ext ρ H ρ' H') {env : List (Option D)} {σ : L2.St} (h : RepS K ρ H env σ) : RepS K ρ' H' env σ :=
  ⟨h.1, fun i d q => let ⟨v, a, b⟩ := h.2 i d q; ⟨v, a, Rep.mono e _ _ b⟩⟩
theorem RepS.set {env : List (Option D)} {σ : L2.St} {d : D} {v : V} (h : RepS K ρ H env σ) (r : Rep K ρ H d v) (i : Nat) : RepS K ρ H (env.set i (some d)) (σ.set i (some v)) := by
  refine ⟨by simp [h.1], fun j d' q => ?_⟩
  by_cases e : j = i
  · subst e
    have l : j < env.length := by
      have := (List.getElem?_eq_some_iff.mp q).1
      simpa using this
    rw [List.getElem?_set_self l] at q
    have : d = d' := by simpa using q
    subst this
    exact ⟨v, by rw [List.getElem?_set_self (by rw [h.1]; exact l)], r⟩
  · rw [List.getElem?_set_ne (Ne.symm e)] at q
    obtain ⟨u, a, b⟩ := h.2 j d' q
    exact ⟨u, by rw [List.getElem?_set_ne (Ne.symm e)]; exact a, b⟩
end Py
-- PyB
namespace Py
open PySem PySem.Spec PyProof.Rows L2

/-! ### 5. operations on data -/
abbrev Env := List (Option D)
/-- a def's meaning -/
abbrev Sem := List D → M D
/-- the class that isinstance asks of: a built-in one, an own one -/
inductive Cl where
  | b (n : String)
  | c (n : Str)
inductive Bop where
  | add | sub | mul | mod | fdiv | pow
inductive Cop where
  | eq | ne | lt | le | gt | ge | is | isnot | isin | notin
inductive Bi where
  | len | abs | int | max | min | sum | all | any | sorted | list | tuple | dict
inductive Mt where
  | append | pop | extend
def fits (n : Nat) : Bool := decide (n ≤ sizeLine)
def M.nox {α : Type} (m : M α) : M α := fun S => match m S with
  | .exc _ _ => .stuck
  | r => r
/-- a new list: plain, or a mutable object -/
def mkL (m : Bool) (xs : List D) : M D := if m then fun S => .ok (.cell S.length) (S ++ [.lst xs]) else M.pure (.lst xs)
def mkD (kvs : List (Key × D)) : M D := fun S => .ok (.cell S.length) (S ++ [.dic false kvs])
/-- the items of a list or a tuple -/
def seqOf : D → M (List D)
  | .tup xs => M.pure xs
  | .lst xs => M.pure xs
  | .scr ns => M.pure (ns.map .int)
  | .cell n => fun S => match S[n]? with
    | some (.lst xs) => .ok xs S
    | _ => .stuck
  | _ => M.fail
/-- the items of a list that is no script -/
def litOf (d : D) : M (List D) := match d with
  | .lst xs => M.pure xs
  | .cell n => fun S => match S[n]? with
    | some (.lst xs) => .ok xs S
    | _ => .stuck
  | _ => M.fail
/-- two lists, one behind the other: a mutable object, or plain -/
def addL (m : Bool) (x y : D) : M D := M.bind (litOf x) fun xs => M.bind (litOf y) fun ys => if fits (xs.length + ys.length) then mkL m (xs ++ ys) else M.fail
mutual
/-- as PyData; so deep -/
def toP (S : Store) : Nat → D → Option PyData
  | 0, _ => none
  | _ + 1, .non => some .none
  | _ + 1, .bl b => some (.bool b)
  | _ + 1, .int i => some (.int i)
  | _ + 1, .str x => some (.str x)
  | n + 1, .tup xs => (toPs S n xs).map .tuple
  | n + 1, .lst xs => (toPs S n xs).map .list
  | n + 1, .cell k => match S[k]? with
    | some (.lst xs) => (toPs S n xs).map .list
    | _ => none
  | _ + 1, _ => none
def toPs (S : Store) : Nat → List D → Option (List PyData)
  | 0, _ => none
  | _ + 1, [] => some []
  | n + 1, d :: ds => match toP S n d, toPs S n ds with
    | some p, some ps => some (p :: ps)
    | _, _ => none
end
def eqD (S : Store) (a b : D) : Option Bool := match toP S 1000 a, toP S 1000 b with
  | some p, some q => if SeqAt.shaped p && SeqAt.shaped q then some (PyData.eqv p q) else none
  | _, _ => none
def inD (S : Store) (a : D) (xs : List D) : Option Bool := match toP S 1000 a, toPs S 1000 xs with
  | some p, some qs => if SeqAt.shaped p && SeqAt.shaped (.list qs) then some (qs.any fun z => PyData.eqv z p) else none
  | _, _ => none
def valD (kvs : List (Key × D)) (k : Key) : Option D := (kvs.find? fun kv => decide (kv.1 = k)).map (·.2)
def putD (kvs : List (Key × D)) (k : Key) (v : D) : List (Key × D) :=
  if (kvs.any fun kv => decide (kv.1 = k)) = true then kvs.map (fun kv => if kv.1 = k then (kv.1, v) else kv) else kvs ++ [(k, v)]
def keyOf : D → Option Key
  | .int i => some (.inl i)
  | .str x => some (.inr x)
  | _ => none
def cmul (i j : Int) : Bool := (decide (-(2 ^ 64) < i) && decide (i < 2 ^ 64)) || (decide (-(2 ^ 64) < j) && decide (j < 2 ^ 64))
def opBin : Bop → D → D → M D
  | .add, .int i, .int j => M.pure (.int (i + j))
  | .add, .str x, .str y => if fits (x.length + y.length) then M.pure (.str (x ++ y)) else M.fail
  | .add, .tup xs, .tup ys => if fits (xs.length + ys.length) then M.pure (.tup (xs ++ ys)) else M.fail
  | .add, .lst xs, .lst ys => if fits (xs.length + ys.length) then M.pure (.lst (xs ++ ys)) else M.fail
  | .sub, .int i, .int j => M.pure (.int (i - j))
  | .mul, .int i, .int j => if cmul i j then M.pure (.int (i * j)) else M.fail
  | .mul, .tup xs, .int k => if decide (1 ≤ k) && (decide (k ≤ 1000) && decide (xs.length ≤ 1000)) then M.pure (.tup (List.replicate k.toNat xs).flatten) else M.fail
  | .mul, .lst xs, .int k => if decide (1 ≤ k) && (decide (k ≤ 1000) && decide (xs.length ≤ 1000)) then M.pure (.lst (List.replicate k.toNat xs).flatten) else M.fail
  | .mod, .int i, .int j => if j = 0 then M.fail else M.pure (.int (i.fmod j))
  | .fdiv, .int i, .int j => if decide (j ≠ 0) && decide (j.natAbs < 1073741824) then M.pure (.int (i.fdiv j)) else M.fail
  | .pow, .int i, .int j => if decide (0 ≤ j) && (decide (j ≤ 1000000) && decide (i.natAbs < 2 ^ 64)) then M.pure (.int (i ^ j.toNat)) else M.fail
  | _, _, _ => M.fail
/-- is -/
def isD : D → D → Option Bool
  | d, .non => some (match d with
    | .non => true
    | _ => false)
  | .bl a, .bl b => some (decide (a = b))
  | _, _ => none
/-- flat data as a value -/
def vOf : D → Option V
  | .non => some .non
  | .bl b => some (.bl b)
  | .int i => some (.int i)
  | .str x => some (.str x)
  | _ => none
def vsOf : List D → Option (List V)
  | [] => some []
  | d :: ds => match vOf d, vsOf ds with
    | some v, some vs => some (v :: vs)
    | _, _ => none
/-- in -/
def isInD (a b : D) : M Bool := match b with
  | .str z => (match a with
    | .str c => (match c.cps.toList with
      | [k] => M.pure (decide (k ∈ z.cps.toList))
      | _ => M.fail)
    | _ => M.fail)
  | .lst xs => fun S => M.opt (inD S a xs) S
  | .tup xs => M.opt (match vOf a, vsOf xs with | some u, some us => some (inV u us) | _, _ => none)
  | .cell n => fun S => match S[n]? with
    | some (.lst xs) => M.opt (inD S a xs) S
    | some (.dic _ kvs) => (match keyOf a with
      | some k => .ok ((valD kvs k).isSome) S
      | none => .stuck)
    | _ => .stuck
  | _ => M.fail
def opCmp : Cop → D → D → M D
  | .eq, a, b => fun S => (M.opt ((eqD S a b).map .bl)) S
  | .ne, a, b => fun S => (M.opt ((eqD S a b).map fun k => .bl (!k))) S
  | .lt, .int i, .int j => M.pure (.bl (decide (i < j)))
  | .le, .int i, .int j => M.pure (.bl (decide (i ≤ j)))
  | .gt, .int i, .int j => M.pure (.bl (decide (j < i)))
  | .ge, .int i, .int j => M.pure (.bl (decide (j ≤ i)))
  | .is, a, b => M.opt ((isD a b).map .bl)
  | .isnot, a, b => M.opt ((isD a b).map fun k => .bl (!k))
  | .isin, a, b => M.bind (isInD a b) fun k => M.pure (.bl k)
  | .notin, a, b => M.bind (isInD a b) fun k => M.pure (.bl (!k))
  | _, _, _ => M.fail
/-- truth -/
def tru : D → M Bool
  | .non => M.pure false
  | .bl b => M.pure b
  | .int i => M.pure (i != 0)
  | .tup xs => M.pure (!xs.isEmpty)
  | .lst xs => M.pure (!xs.isEmpty)
  | _ => M.fail
def boolOf : D → M Bool
  | .bl b => M.pure b
  | _ => M.fail
def intOf : D → M Int
  | .int i => M.pure i
  | _ => M.fail
def opIx : D → D → M D
  | .str z, .int i => if fits z.length then (match atI z.cps.toList i with
    | some c => M.pure (.str ⟨#[c]⟩)
    | none => M.fail) else M.fail
  | .cell n, k => fun S => match S[n]? with
    | some (.lst xs) => (match k with
      | .int i => M.opt (atI xs i) S
      | _ => .stuck)
    | some (.dic _ kvs) => (match keyOf k with
      | some q => M.opt (valD kvs q) S
      | none => .stuck)
    | _ => .stuck
  | .tup xs, .int i => M.opt (atI xs i)
  | .lst xs, .int i => M.opt (atI xs i)
  | .scr ns, .int i => M.opt ((atI ns i).map .int)
  | _, _ => M.fail
def cutD {α : Type} (xs : List α) (lo hi : Option Int) : List α := (xs.drop (HT.sIx xs.length 0 lo)).take (HT.sIx xs.length xs.length hi - HT.sIx xs.length 0 lo)
def opSl (d : D) (lo hi : Option Int) : M D := match d with
  | .str z => if fits z.length then M.pure (.str ⟨(cutD z.cps.toList lo hi).toArray⟩) else M.fail
  | .tup xs => M.pure (.tup (cutD xs lo hi))
  | d => M.bind (seqOf d) fun xs => M.pure (.lst (cutD xs lo hi))
def opRev : D → M D
  | .tup xs => M.pure (.tup xs.reverse)
  | .lst xs => M.pure (.lst xs.reverse)
  | _ => M.fail
def intsOf : List D → Option (List Int)
  | [] => some []
  | .int i :: r => (intsOf r).map (i :: ·)
  | _ => none
def strsOf : List D → Option (List Str)
  | [] => some []
  | .str i :: r => (strsOf r).map (i :: ·)
  | _ => none
def blsOf : List D → Option (List Bool)
  | [] => some []
  | .bl i :: r => (blsOf r).map (i :: ·)
  | _ => none
/-! ### 34. what a def leaves: its own objects are dropped -/
mutual
/-- data without the objects behind the first n: their lists as plain ones -/
def fzD (S : Store) (n : Nat) : Nat → D → Option D
  | 0, _ => none
  | m + 1, .tup xs => (fzL S n m xs).map .tup
  | m + 1, .lst xs => (fzL S n m xs).map .lst
  | m + 1, .ins c ns ds => (fzL S n m ds).map (.ins c ns)
  | m + 1, .cell j => if j < n then some (.cell j) else (match S[j]? with
    | some (.lst xs) => (fzL S n m xs).map .lst
    | some (.ins c fs) => (fzL S n m (fs.map (·.2))).map (.ins c (fs.map (·.1)))
    | _ => none)
  | _ + 1, d => some d
def fzL (S : Store) (n : Nat) : Nat → List D → Option (List D)
  | 0, _ => none
  | _ + 1, [] => some []
  | m + 1, d :: ds => match fzD S n m d, fzL S n m ds with
    | some p, some ps => some (p :: ps)
    | _, _ => none
end
mutual
/-- data names objects among the first n only -/
def below (n : Nat) : D → Prop
  | .tup xs => belowL n xs
  | .lst xs => belowL n xs
  | .ins _ _ ds => belowL n ds
  | .cell j => j < n
  | _ => True
def belowL (n : Nat) : List D → Prop
  | [] => True
  | d :: ds => below n d ∧ belowL n ds
end
def belowK (n : Nat) : List (Key × D) → Prop
  | [] => True
  | d :: ds => below n d.2 ∧ belowK n ds
def belowF (n : Nat) : List (Str × D) → Prop
  | [] => True
  | d :: ds => below n d.2 ∧ belowF n ds
def belowC (n : Nat) : CV → Prop
  | .lst xs => belowL n xs
  | .dic _ kvs => belowK n kvs
  | .ins _ fs => belowF n fs
/-- what stood ahead names no new object -/
def Kept (S S' : Store) : Prop := ∀ j, j < S.length → S'[j]? = S[j]? ∨ ∃ c, S'[j]? = some c ∧ belowC S.length c
/-- what a def gives: with its own objects dropped (z), or as they stand -/
noncomputable def retF (z : Bool) (S : Store) (d : D) (S' : Store) : Out D := if z then (match fzD S' S.length 1000 d with
  | some d' => @ite _ (Kept S S') (Classical.propDecidable _) (.ok d' (S'.take S.length)) .stuck
  | none => .stuck) else .ok d S'
def fzF (S' : Store) (n : Nat) : List (Str × D) → Option (List (Str × D))
  | [] => some []
  | p :: r => match fzD S' n 1000 p.2, fzF S' n r with
    | some d, some t => some ((p.1, d) :: t)
    | _, _ => none
noncomputable def excF (z : Bool) (S : Store) (x : Exn) (S' : Store) : Out D := if z then (match fzF S' S.length x.fs with
  | some fs => @ite _ (Kept S S') (Classical.propDecidable _) (.exc ⟨x.cls, fs⟩ (S'.take S.length)) .stuck
  | none => .stuck) else .exc x S'
end Py
-- PyC
namespace Py
open PySem PySem.Spec PyProof.Rows L2

/-! ### 6. expressions -/
/-- a target: one slot, several -/
inductive Tg where
  | nm (i : Nat)
  | tp (is : List Nat)
/-- what of a dict is walked -/
inductive Wk where
  | keys | values | items
inductive E where
  | var (i : Nat)
  | con (d : D)
  | glob (x : Str) (d : D)
  | no
  | nil
  | cons (e es : E)
  | tup (es : E)
  | lst (m : Bool) (es : E)
  | edic
  | bin (op : Bop) (a b : E)
  | cmp (op : Cop) (a b : E)
  | chain (o o' : Cop) (a b c : E)
  | neg (a : E)
  | not (a : E)
  | and (a b : E)
  | or (a b : E)
  | ite (t a b : E)
  | ix (a i : E)
  | sl (a lo hi : E)
  | rev (a : E)
  | call (nm : Str) (n : Nat) (f : Sem) (es : E)
  | kall (nm : Str) (f : Sem) (n : Nat) (ks : List Str) (g : List Nat) (es kes : E)
  | prim (nm : Str) (f : Sem) (es : E)
  | meth (nm : Str) (T : String) (f : D → Sem) (o : E) (es : E)
  | isi (a : E) (cs : List Cl) (one : Bool)
  | attr (o : E) (f : Str)
  | lc (m : Bool) (tg : Tg) (it c e : E)
  | lcd (m : Bool) (tg : Tg) (i : Nat) (c e : E)
  | rng1 (a : E)
  | rng2 (a b : E)
  | enum (a : E)
  | zip2 (a b : E)
  | walk (kd : Wk) (a : E)
  | mk (c : Str) (keep : Bool) (n : Nat) (f : Sem) (es : E)
  | mkk (c : Str) (keep : Bool) (f : Sem) (n : Nat) (ks : List Str) (g : List Nat) (es kes : E)
  | eqm (c : Str) (f : Sem) (a b : E)
  | dis (es : E)
  | pr (kk e es : E)
  | addl (m : Bool) (a b : E)

/-- the type of data: a built-in one, an own class -/
def tyD (S : Store) : D → Option Cl
  | .non => some (.b "NoneType")
  | .bl _ => some (.b "bool")
  | .int _ => some (.b "int")
  | .str _ => some (.b "str")
  | .tup _ => some (.b "tuple")
  | .lst _ => some (.b "list")
  | .scr _ => some (.b "list")
  | .ins c _ _ => some (.c c)
  | .cell n => match S[n]? with
    | some (.lst _) => some (.b "list")
    | some (.dic _ _) => some (.b "dict")
    | some (.ins c _) => some (.c c)
    | none => none
def isTy (T : String) (d : D) : M Unit := fun S => match tyD S d with
  | some (.b n) => if n = T then (match d with
    | .cell k => (match S[k]? with
      | some (.dic true _) => .stuck
      | _ => .ok () S)
    | _ => .ok () S) else .stuck
  | _ => .stuck
def subB (a b : String) : Bool := a == b || (a == "bool" && b == "int")
def isC : Cl → Cl → Bool
  | .b a, .b b => subB a b
  | .c a, .c b => decide (a = b)
  | _, _ => false
def isiD (S : Store) (d : D) (cs : List Cl) : Option Bool := (tyD S d).map fun t => cs.any (isC t)
/-- a list's items into slots -/
def bindT : Tg → D → Env → M Env
  | .nm i, d, env => M.pure (env.set i (some d))
  | .tp is, d, env => M.bind (seqOf d) fun xs => if xs.length = is.length then M.pure ((is.zip xs).foldl (fun en p => en.set p.1 (some p.2)) env) else M.fail
def wipeE (env : Env) : Tg → Env
  | .nm i => env.set i none
  | .tp is => is.foldr (fun i en => en.set i none) env
def Tg.slots : Tg → List Nat
  | .nm i => [i]
  | .tp is => is
/-- a comprehension's turns: what each gives -/
def turns (f : D → M (Option D)) : List D → M (List D)
  | [] => M.pure []
  | d :: ds => M.bind (f d) fun o => M.bind (turns f ds) fun r => M.pure (o.toList ++ r)
/-- the source of a walk: its items; the mutable lists that it hangs on, as they stand -/
structure Src where
  items : List D
  cells : List (Nat × List D)
def Src.holds (s : Src) (S : Store) : Prop := ∀ p ∈ s.cells, S[p.1]? = some (.lst p.2)
/-- a mutable list stands while it is walked -/
noncomputable def still (s : Src) : M Unit := fun S => @ite _ (s.holds S) (Classical.propDecidable _) (.ok () S) .stuck
noncomputable def turnsW (s : Src) (f : D → M (Option D)) : List D → M (List D)
  | [] => M.bind (still s) fun _ => M.pure []
  | d :: ds => M.bind (still s) fun _ => M.bind (M.nox (f d)) fun o => M.bind (turnsW s f ds) fun r => M.pure (o.toList ++ r)
def srcOf : D → M Src
  | .str z => M.pure ⟨z.cps.toList.map fun c => .str ⟨#[c]⟩, []⟩
  | .tup xs => M.pure ⟨xs, []⟩
  | .lst xs => M.pure ⟨xs, []⟩
  | .scr ns => M.pure ⟨ns.map .int, []⟩
  | .cell n => fun S => match S[n]? with
    | some (.lst xs) => .ok ⟨xs, [(n, xs)]⟩ S
    | _ => .stuck
  | _ => M.fail
def keyD : Key → D
  | .inl i => .int i
  | .inr x => .str x
/-- a dict's keys -/
def keysS (kvs : List (Key × D)) : Src := ⟨kvs.map fun kv => keyD kv.1, []⟩
def walkS (kd : Wk) (kvs : List (Key × D)) : Src := match kd with
  | .keys => keysS kvs
  | .values => ⟨kvs.map (·.2), []⟩
  | .items => ⟨kvs.map fun kv => .tup [keyD kv.1, kv.2], []⟩
/-- a dict is locked from here on -/
def lockD (kd : Wk) : D → M Src
  | .cell n => fun S => match S[n]? with
    | some (.dic false kvs) => .ok (walkS kd kvs) (S.set n (.dic true kvs))
    | some (.dic true kvs) => .ok (walkS kd kvs) S
    | _ => .stuck
  | _ => M.fail
/-- numbered -/
def enumL : Nat → List D → List D
  | _, [] => []
  | i, d :: ds => .tup [.int (i : Nat), d] :: enumL (i + 1) ds
def zipL : List D → List D → List D
  | a :: as, b :: bs => .tup [a, b] :: zipL as bs
  | _, _ => []
/-- two lists, two tuples -/
def sameK : D → D → Bool
  | .tup _, .tup _ => true
  | .tup _, _ => false
  | _, .tup _ => false
  | .str _, _ => false
  | _, .str _ => false
  | _, _ => true
def notText : D → Bool
  | .str _ => false
  | _ => true
def enumS (d : D) : M Src := if notText d then M.bind (srcOf d) fun s => M.pure ⟨enumL 0 s.items, s.cells⟩ else M.fail
def zipS (x y : D) : M Src := if sameK x y then M.bind (srcOf x) fun s => M.bind (srcOf y) fun r => M.pure ⟨zipL s.items r.items, s.cells ++ r.cells⟩ else M.fail
/-- a walk over the dict n, which is locked meanwhile -/
noncomputable def lcdM (m : Bool) (n : Nat) (f : D → M (Option D)) : M D := fun S => match S[n]? with
  | some (.dic false kvs) => (match turnsW (keysS kvs) f (keysS kvs).items (S.set n (.dic true kvs)) with
    | .ok rs S2 => if fits rs.length then mkL m rs (S2.set n (.dic false kvs)) else .stuck
    | _ => .stuck)
  | _ => .stuck
def rngI (lo hi : Int) : M D := if decide (-(2 ^ 62) ≤ lo) && (decide (lo < 2 ^ 62) && (decide (-(2 ^ 62) ≤ hi) && decide (hi < 2 ^ 62)))
  then M.pure (.scr ((List.range (hi - lo).toNat).map fun i => lo + (i : Nat))) else M.fail
def optI : D → M (Option Int)
  | .int i => M.pure (some i)
  | _ => M.fail
/-- the five meanings of an expression: a value, a test, arguments, a slice's part, what is walked -/
structure Rd4 where
  v : Env → M D
  t : Env → M Bool
  a : Env → M (List D)
  o : Env → M (Option Int)
  s : Env → M Src
def Rd4.of (f : Env → M D) : Rd4 := ⟨f, fun env => M.bind (f env) tru, fun _ => M.fail, fun env => M.bind (f env) optI, fun env => M.bind (f env) srcOf⟩
def Rd4.src (f : Env → M Src) : Rd4 := ⟨fun _ => M.fail, fun _ => M.fail, fun _ => M.fail, fun _ => M.fail, f⟩
/-- an own object: made, then its __init__ -/
noncomputable def makeD (c : Str) (keep : Bool) (f : Sem) (xs : List D) : M D := fun S => match f (.cell S.length :: xs) (S ++ [.ins c []]) with
  | .ok .non S' => retF (!keep) S (.cell S.length) S'
  | .exc x S' => excF (!keep) S x S'
  | _ => .stuck
/-- x == y: an object of the class c by its own __eq__, else as ever -/
def eqM (c : Str) (f : Sem) (x y : D) : M D := fun S => match tyD S x with
  | some (.c c') => if c' = c ∧ (tyD S y).isSome = true then (match f [x, y] S with
    | .ok (.bl b) S' => .ok (.bl b) S'
    | _ => .stuck) else .stuck
  | _ => opCmp .eq x y S
/-- a display's pairs -/
def disOf : List D → Option (List (Key × D))
  | [] => some []
  | x :: y :: r => match keyOf x, disOf r with
    | some q, some s => some ((q, y) :: s)
    | _, _ => none
  | _ => none
def mergeD (acc more : List (Key × D)) : List (Key × D) := more.foldl (fun acc kv => putD acc kv.1 kv.2) acc
def disM (xs : List D) : M D := M.bind (M.opt (disOf xs)) fun kvs => if decide (kvs.length ≤ 15) then mkD (mergeD [] kvs) else M.fail
noncomputable def evR : E → Rd4
  | .var i => .of fun env => M.opt ((env[i]?).bind id)
  | .con d => .of fun _ => M.pure d
  | .glob _ d => .of fun _ => M.pure d
  | .no => ⟨fun _ => M.fail, fun _ => M.pure true, fun _ => M.fail, fun _ => M.pure none, fun _ => M.fail⟩
  | .nil => ⟨fun _ => M.fail, fun _ => M.fail, fun _ => M.pure [], fun _ => M.fail, fun _ => M.fail⟩
  | .cons e es => ⟨fun _ => M.fail, fun _ => M.fail, fun env => M.bind ((evR e).v env) fun x => M.bind ((evR es).a env) fun xs => M.pure (x :: xs), fun _ => M.fail, fun _ => M.fail⟩
  | .tup es => .of fun env => M.bind ((evR es).a env) fun xs => if fits xs.length then M.pure (.tup xs) else M.fail
  | .lst m es => .of fun env => M.bind ((evR es).a env) fun xs => if fits xs.length then mkL m xs else M.fail
  | .edic => .of fun _ => mkD []
  | .bin op a b => .of fun env => M.bind ((evR a).v env) fun x => M.bind ((evR b).v env) fun y => opBin op x y
  | .cmp op a b => .of fun env => M.bind ((evR a).v env) fun x => M.bind ((evR b).v env) fun y => opCmp op x y
  | .chain o o' a b c => .of fun env => M.bind ((evR a).v env) fun x => M.bind ((evR b).v env) fun y => M.bind (opCmp o x y) fun r => M.bind (boolOf r) fun k =>
      if k then M.bind ((evR c).v env) fun z => opCmp o' y z else M.pure (.bl false)
  | .neg a => .of fun env => M.bind ((evR a).v env) fun x => M.bind (intOf x) fun i => M.pure (.int (-i))
  | .not a => { Rd4.of (fun env => M.bind ((evR a).v env) fun x => M.bind (boolOf x) fun k => M.pure (.bl (!k))) with t := fun env => M.bind ((evR a).t env) fun k => M.pure (!k) }
  | .and a b => { Rd4.of (fun env => M.bind ((evR a).v env) fun x => M.bind (boolOf x) fun k => if k then (evR b).v env else M.pure (.bl false)) with
      t := fun env => M.bind ((evR a).t env) fun k => if k then (evR b).t env else M.pure false }
  | .or a b => { Rd4.of (fun env => M.bind ((evR a).v env) fun x => M.bind (boolOf x) fun k => if k then M.pure (.bl true) else (evR b).v env) with
      t := fun env => M.bind ((evR a).t env) fun k => if k then M.pure true else (evR b).t env }
  | .ite t a b => { Rd4.of (fun env => M.bind ((evR t).t env) fun k => if k then (evR a).v env else (evR b).v env) with t := fun _ => M.fail }
  | .ix a i => .of fun env => M.bind ((evR a).v env) fun x => M.bind ((evR i).v env) fun y => opIx x y
  | .sl a lo hi => .of fun env => M.bind ((evR a).v env) fun x => M.bind ((evR lo).o env) fun l => M.bind ((evR hi).o env) fun u => opSl x l u
  | .rev a => .of fun env => M.bind ((evR a).v env) fun x => opRev x
  | .call _ n f es => .of fun env => M.bind ((evR es).a env) fun xs => if xs.length = n then f xs else M.fail
  | .kall _ f n ks g es kes => .of fun env => M.bind ((evR es).a env) fun xs => M.bind ((evR kes).a env) fun ys => if xs.length = n ∧ ys.length = ks.length then M.bind (M.opt ((g.map fun i => (xs ++ ys)[i]?).mapM id)) fun zs => f zs else M.fail
  | .prim _ f es => .of fun env => M.bind ((evR es).a env) fun xs => f xs
  | .meth _ T f o es => .of fun env => M.bind ((evR o).v env) fun x => M.bind (isTy T x) fun _ => M.bind ((evR es).a env) fun xs => f x xs
  | .isi a cs _ => .of fun env => M.bind ((evR a).v env) fun x => fun S => M.opt ((isiD S x cs).map .bl) S
  | .attr o f => .of fun env => M.bind ((evR o).v env) fun x => match x with
    | .ins _ ns ds => M.opt ((ns.zip ds).lookup f)
    | .cell n => fun S => match S[n]? with
      | some (.ins _ fs) => M.opt (fs.lookup f) S
      | _ => .stuck
    | _ => M.fail
  | .lc m tg it c e => .of fun env => M.bind ((evR it).s env) fun s =>
      M.bind (turnsW s (fun d => M.bind (bindT tg d (wipeE env tg)) fun en => M.bind ((evR c).t en) fun k => if k then M.bind ((evR e).v en) fun r => M.pure (some r) else M.pure none) s.items) fun rs =>
      if fits rs.length then mkL m rs else M.fail
  | .lcd m tg i c e => .of fun env S => match (env[i]?).bind id with
    | some (.cell n) => lcdM m n (fun d => M.bind (bindT tg d (wipeE env tg)) fun en => M.bind ((evR c).t en) fun k => if k then M.bind ((evR e).v en) fun r => M.pure (some r) else M.pure none) S
    | _ => .stuck
  | .rng1 a => .of fun env => M.bind ((evR a).v env) fun x => M.bind (intOf x) fun i => rngI 0 i
  | .rng2 a b => .of fun env => M.bind ((evR a).v env) fun x => M.bind ((evR b).v env) fun y => M.bind (intOf x) fun i => M.bind (intOf y) fun j => rngI i j
  | .enum a => .src fun env => M.bind ((evR a).v env) enumS
  | .zip2 a b => .src fun env => M.bind ((evR a).v env) fun x => M.bind ((evR b).v env) fun y => zipS x y
  | .walk kd a => .src fun env => M.bind ((evR a).v env) (lockD kd)
  | .mk c keep n f es => .of fun env => M.bind ((evR es).a env) fun xs => if xs.length = n then makeD c keep f xs else M.fail
  | .mkk c keep f n ks g es kes => .of fun env => M.bind ((evR es).a env) fun xs => M.bind ((evR kes).a env) fun ys => if xs.length = n ∧ ys.length = ks.length then M.bind (M.opt ((g.map fun i => (xs ++ ys)[i]?).mapM id)) fun zs => makeD c keep f zs else M.fail
  | .eqm c f a b => .of fun env => M.bind ((evR a).v env) fun x => M.bind ((evR b).v env) fun y => eqM c f x y
  | .dis es => .of fun env => M.bind (M.nox ((evR es).a env)) disM
  | .pr kk e es => ⟨fun _ => M.fail, fun _ => M.fail, fun env => M.bind ((evR kk).v env) fun x => M.bind ((evR e).v env) fun y => M.bind ((evR es).a env) fun xs => M.pure (x :: y :: xs), fun _ => M.fail, fun _ => M.fail⟩
  | .addl m a b => .of fun env => M.bind ((evR a).v env) fun x => M.bind ((evR b).v env) fun y => addL m x y
noncomputable abbrev ev (e : E) : Env → M D := (evR e).v
noncomputable abbrev evA (e : E) : Env → M (List D) := (evR e).a
noncomputable abbrev evO (e : E) : Env → M (Option Int) := (evR e).o
noncomputable abbrev evS (e : E) : Env → M Src := (evR e).s
noncomputable abbrev tst (e : E) : Env → M Bool := (evR e).t
/-! ### 7. the syntax against the row's -/
def bopIs : Bop → Operator → Bool
  | .add, .Add => true | .sub, .Sub => true | .mul, .Mult => true | .mod, .Mod => true | .fdiv, .FloorDiv => true | .pow, .Pow => true
  | _, _ => false
def copIs : Cop → CmpOp → Bool
  | .eq, .Eq => true | .ne, .NotEq => true | .lt, .Lt => true | .le, .LtE => true | .gt, .Gt => true | .ge, .GtE => true | .is, .Is => true | .isnot, .IsNot => true | .isin, .In => true | .notin, .NotIn => true
  | _, _ => false
def conIs : D → Const → Bool
  | .non, .none => true
  | .bl a, .bool b => a == b
  | .int a, .int b => decide (a = b)
  | .str a, .str b => decide (a = b)
  | _, _ => false
def notStar : PySem.Expr → Bool
  | .Starred _ _ => false
  | _ => true
def notSlice : PySem.Expr → Bool
  | .Slice _ _ _ _ => false
  | _ => true
/-- seen as a name of the def -/
def visB (sc : Scope) (x : Str) : Bool := match sc.names.lookup x with
  | some .local => true
  | some .cell => true
  | some .free => true
  | _ => false
def locB (sc : Scope) (x : Str) : Bool := match sc.names.lookup x with
  | some .local => true
  | some .cell => true
  | _ => false
def glB (sc : Scope) (x : Str) : Bool := match sc.names.lookup x with
  | some .globalImplicit => true
  | _ => false
def oddB (x : Str) : Bool := (x == ("__debug__" : Str)) || (x == ("__classdict__" : Str)) || (x == ("__name__" : Str))
def nameOk (sc : Scope) (x : Str) : Bool := glB sc x && !oddB x
def varOk (N : List Str) (sc : Scope) (i : Nat) (x : Str) : Bool := decide (N[i]? = some x) && (visB sc x && !oddB x)
def tgOk (N : List Str) (sc : Scope) (i : Nat) (x : Str) : Bool := decide (N[i]? = some x) && (locB sc x && !oddB x)
def tgsOk (N : List Str) (sc : Scope) : List Nat → List PySem.Expr → Bool
  | [], [] => true
  | i :: is, .Name x _ :: es => tgOk N sc i x && tgsOk N sc is es
  | _, _ => false
def chkT (N : List Str) (sc : Scope) : Tg → PySem.Expr → Bool
  | .nm i, .Name x _ => tgOk N sc i x
  | .tp is, .Tuple es _ _ => tgsOk N sc is es
  | _, _ => false
def clName : Cl → Str
  | .b n => PySem.Str.ofString n
  | .c n => n
def clsOk (sc : Scope) : List Cl → List PySem.Expr → Bool
  | [], [] => true
  | c :: cs, .Name x _ :: es => decide (clName c = x) && (nameOk sc x && clsOk sc cs es)
  | _, _ => false
/-- o.f where o is no super() -/
def plainBase : PySem.Expr → Bool
  | .Call _ _ _ _ => false
  | .Starred _ _ => false
  | _ => true
def ownB (scope : Scope) : PySem.Expr → Bool
  | .Name x _ => locB scope x
  | .Tuple es _ _ => es.all fun e => match e with
    | .Name x _ => locB scope x
    | _ => false
  | _ => false
def tgNames (N : List Str) : List Nat → List (Str × Nat)
  | [] => []
  | i :: is => (N.getD i Str.empty, i) :: tgNames N is
def isRev : PySem.Expr → Bool
  | .Slice none none (some (.UnaryOp .USub (.Constant (.int i) _ _) _)) _ => decide (i = 1)
  | _ => false
def noSet : PySem.Expr → Bool
  | .Set _ _ _ => false
  | _ => true
/-- o.f where o is no super() -/
def plainB : PySem.Expr → Bool
  | .Call (.Name _ _) [] [] _ => false
  | _ => true
/-- an expression whose test is its value's truth -/
def byVal : PySem.Expr → Bool
  | .UnaryOp .Not _ _ => false
  | .BoolOp _ _ _ => false
  | .IfExp _ _ _ _ => false
  | .Compare _ _ _ _ => false
  | _ => true
def notComp : PySem.Expr → Bool
  | .ListComp _ _ _ _ => false
  | .SetComp _ _ _ _ => false
  | .DictComp _ _ _ _ _ => false
  | _ => true
def isiC (one : Bool) (sc : Scope) (cs : List Cl) (c : PySem.Expr) : Bool := match c with
  | .Name y q => one && clsOk sc cs [.Name y q]
  | .Tuple ys _ _ => !one && (fits cs.length && clsOk sc cs ys)
  | _ => false
structure Rc where
  v : Scope → PySem.Expr → Bool
  t : Scope → PySem.Expr → Bool
  a : Scope → List PySem.Expr → Bool
  o : Scope → Option PySem.Expr → Bool
  i : Scope → PySem.Expr → PySem.Expr → Bool
  kw : Scope → List Str → List Keyword → Bool
  /-- and, or: values, tests -/
  an : Scope → List PySem.Expr → Bool
  on : Scope → List PySem.Expr → Bool
  ant : Scope → List PySem.Expr → Bool
  ont : Scope → List PySem.Expr → Bool
  ifs : Scope → List PySem.Expr → Bool
  /-- a display's pairs -/
  prs : Scope → List (Option PySem.Expr) → List PySem.Expr → Bool := fun _ _ _ => false
def one1 (f : Scope → PySem.Expr → Bool) : Scope → List PySem.Expr → Bool := fun sc es => match es with
  | [e] => f sc e
  | _ => false
/-- f: as a value, ft: as a test -/
def Rc.of2 (f ft : Scope → PySem.Expr → Bool) : Rc where
  v := f
  t := ft
  a := fun _ _ => false
  o := fun sc e => match e with
    | some e => f sc e
    | none => false
  i := fun sc _ e => noSet e && f sc e
  kw := fun _ _ _ => false
  an := one1 f
  on := one1 f
  ant := one1 ft
  ont := one1 ft
  ifs := one1 ft
def Rc.of (f : Scope → PySem.Expr → Bool) : Rc := .of2 f fun sc e => byVal e && f sc e
/-- no meaning at all -/
def Rc.no : Rc := ⟨fun _ _ => false, fun _ _ => false, fun _ _ => false, fun _ _ => false, fun _ _ _ => false, fun _ _ _ => false, fun _ _ => false, fun _ _ => false, fun _ _ => false, fun _ _ => false, fun _ _ => false, fun _ _ _ => false⟩
def isTup : PySem.Expr → Bool
  | .Tuple _ _ _ => true
  | _ => false
def chk (N : List Str) : E → Rc
  | .var i => .of fun sc e => match e with
    | .Name x _ => varOk N sc i x
    | _ => false
  | .con d => .of fun sc e => match e with
    | .Constant c _ _ => conIs d c
    | _ => false
  | .glob y d => .of fun sc e => match e with
    | .Name x _ => decide (y = x) && nameOk sc x
    | _ => false
  | .no => { Rc.no with o := fun _ e => e.isNone, ifs := fun _ es => es.isEmpty }
  | .nil => { Rc.no with a := fun _ es => es.isEmpty, kw := fun _ ks kws => ks.isEmpty && kws.isEmpty, prs := fun _ ks vs => ks.isEmpty && vs.isEmpty }
  | .cons e es => { Rc.no with
      a := fun sc xs => match xs with
        | x :: xs => notStar x && ((chk N e).v sc x && (chk N es).a sc xs)
        | _ => false
      kw := fun sc ks kws => match ks, kws with
        | k :: ks, ⟨some y, x, _⟩ :: kws => decide (k = y) && ((chk N e).v sc x && (chk N es).kw sc ks kws)
        | _, _ => false }
  | .tup es => .of fun sc e => match e with
    | .Tuple xs _ _ => (chk N es).a sc xs
    | _ => false
  | .lst _ es => .of fun sc e => match e with
    | .List xs _ => (chk N es).a sc xs
    | _ => false
  | .edic => .of fun sc e => match e with
    | .Dict [] [] _ => true
    | _ => false
  | .bin op a b => .of fun sc e => match e with
    | .BinOp a' o' b' _ => bopIs op o' && ((chk N a).v sc a' && (chk N b).v sc b')
    | _ => false
  | .cmp op a b => .of2 (fun sc e => match e with
    | .Compare a' [o'] [b'] _ => copIs op o' && (!behindInMarks o' b' && ((chk N a).v sc a' && (chk N b).v sc b'))
    | _ => false) fun sc e => match e with
    | .Compare a' [o'] [b'] _ => copIs op o' && (!behindInMarks o' b' && ((chk N a).v sc a' && (chk N b).v sc b'))
    | _ => false
  | .chain o1 o2 a b c => .of2 (fun sc e => match e with
    | .Compare a' [p, q] [b', c'] _ => copIs o1 p && (copIs o2 q && (!lastMarks [p, q] [b', c'] && ((chk N a).v sc a' && ((chk N b).v sc b' && (chk N c).v sc c'))))
    | _ => false) fun sc e => match e with
    | .Compare a' [p, q] [b', c'] _ => copIs o1 p && (copIs o2 q && (!lastMarks [p, q] [b', c'] && ((chk N a).v sc a' && ((chk N b).v sc b' && (chk N c).v sc c'))))
    | _ => false
  | .neg a => .of fun sc e => match e with
    | .UnaryOp .USub a' _ => (chk N a).v sc a'
    | _ => false
  | .not a => .of2 (fun sc e => match e with
    | .UnaryOp .Not a' _ => (chk N a).v sc a'
    | _ => false) fun sc e => match e with
    | .UnaryOp .Not a' _ => (chk N a).t sc a'
    | _ => false
  | .and a b => { Rc.of2 (fun sc e => match e with
      | .BoolOp .And (x :: y :: r) _ => (chk N a).v sc x && (chk N b).an sc (y :: r)
      | _ => false) (fun sc e => match e with
      | .BoolOp .And (x :: y :: r) _ => (chk N a).t sc x && (chk N b).ant sc (y :: r)
      | _ => false) with
      an := fun sc es => match es with
        | x :: y :: r => (chk N a).v sc x && (chk N b).an sc (y :: r)
        | [.BoolOp .And (x :: y :: r) _] => (chk N a).v sc x && (chk N b).an sc (y :: r)
        | _ => false
      ant := fun sc es => match es with
        | x :: y :: r => (chk N a).t sc x && (chk N b).ant sc (y :: r)
        | [.BoolOp .And (x :: y :: r) _] => (chk N a).t sc x && (chk N b).ant sc (y :: r)
        | _ => false }
  | .or a b => { Rc.of2 (fun sc e => match e with
      | .BoolOp .Or (x :: y :: r) _ => (chk N a).v sc x && (chk N b).on sc (y :: r)
      | _ => false) (fun sc e => match e with
      | .BoolOp .Or (x :: y :: r) _ => (chk N a).t sc x && (chk N b).ont sc (y :: r)
      | _ => false) with
      on := fun sc es => match es with
        | x :: y :: r => (chk N a).v sc x && (chk N b).on sc (y :: r)
        | [.BoolOp .Or (x :: y :: r) _] => (chk N a).v sc x && (chk N b).on sc (y :: r)
        | _ => false
      ont := fun sc es => match es with
        | x :: y :: r => (chk N a).t sc x && (chk N b).ont sc (y :: r)
        | [.BoolOp .Or (x :: y :: r) _] => (chk N a).t sc x && (chk N b).ont sc (y :: r)
        | _ => false }
  | .ite t a b => .of2 (fun sc e => match e with
      | .IfExp t' a' b' _ => (chk N t).t sc t' && ((chk N a).v sc a' && (chk N b).v sc b')
      | _ => false) fun _ _ => false
  | .ix a i => .of fun sc e => match e with
    | .Subscript a' i' _ => notSlice i' && ((chk N a).v sc a' && (chk N i).v sc i')
    | _ => false
  | .sl a lo hi => .of fun sc e => match e with
    | .Subscript a' (.Slice l u none _) _ => (chk N a).v sc a' && ((chk N lo).o sc l && (chk N hi).o sc u)
    | _ => false
  | .rev a => .of fun sc e => match e with
    | .Subscript a' s _ => isRev s && (chk N a).v sc a'
    | _ => false
  | .call nm _ _ es => .of fun sc e => match e with
    | .Call (.Name x _) (y :: ys) [] _ => decide (nm = x) && (nameOk sc x && (chk N es).a sc (y :: ys))
    | _ => false
  | .kall nm _ n ks _ es kes => .of fun sc e => match e with
    | .Call (.Name x _) ys kws _ => decide (nm = x) && (nameOk sc x && (decide (ys.length = n) && (!kws.isEmpty && ((chk N es).a sc ys && (chk N kes).kw sc ks kws))))
    | _ => false
  | .prim nm _ es => .of fun sc e => match e with
    | .Call (.Name x _) (y :: ys) [] _ => decide (nm = x) && (nameOk sc x && (chk N es).a sc (y :: ys))
    | _ => false
  | .meth nm _ _ o es => .of fun sc e => match e with
    | .Call (.Attribute o' x p) ys [] q => decide (nm = x) && (plainB o' && ((p.endLine == q.line) && (decide (ys.length < 29) && ((chk N o).v sc o' && (chk N es).a sc ys))))
    | _ => false
  | .isi a cs one => .of fun sc e => match e with
    | .Call (.Name x _) [a', c] [] _ => decide (("isinstance" : Str) = x) && (nameOk sc x && (notStar a' && ((chk N a).v sc a' && isiC one sc cs c)))
    | _ => false
  | .attr o f => .of fun sc e => match e with
    | .Attribute o' x _ => decide (f = x) && (plainB o' && (chk N o).v sc o')
    | _ => false
  | .lc _ tg it c e => .of fun sc x => match x with
    | .ListComp elt [⟨tg', iter, ifs, 0⟩] scope _ => blkC N sc scope (tgNames N tg.slots) && (ownB scope tg' && chkT N (relS scope sc) tg tg' && ((chk N it).i sc tg' iter && ((chk N c).ifs (relS scope sc) ifs && (chk N e).v (relS scope sc) elt)))
    | _ => false
  | .lcd _ tg i c e => .of fun sc x => match x with
    | .ListComp elt [⟨tg', .Name y _, ifs, 0⟩] scope _ => varOk N sc i y && (blkC N sc scope (tgNames N tg.slots) && (ownB scope tg' && chkT N (relS scope sc) tg tg' && ((chk N c).ifs (relS scope sc) ifs && (chk N e).v (relS scope sc) elt)))
    | _ => false
  | .rng1 a => { Rc.no with i := fun sc _ e => match e with
    | .Call (.Name x _) [a'] [] _ => decide (("range" : Str) = x) && (nameOk sc x && (notStar a' && (chk N a).v sc a'))
    | _ => false }
  | .rng2 a b => { Rc.no with i := fun sc _ e => match e with
    | .Call (.Name x _) [a', b'] [] _ => decide (("range" : Str) = x) && (nameOk sc x && (notStar a' && (notStar b' && ((chk N a).v sc a' && (chk N b).v sc b'))))
    | _ => false }
  | .enum a => { Rc.no with i := fun sc tg e => isTup tg && match e with
    | .Call (.Name x _) [a'] [] _ => decide (("enumerate" : Str) = x) && (nameOk sc x && (notStar a' && (chk N a).v sc a'))
    | _ => false }
  | .zip2 a b => { Rc.no with i := fun sc tg e => isTup tg && match e with
    | .Call (.Name x _) [a', b'] [] _ => decide (("zip" : Str) = x) && (nameOk sc x && (notStar a' && (notStar b' && ((chk N a).v sc a' && (chk N b).v sc b'))))
    | _ => false }
  | .walk kd a => { Rc.no with i := fun sc tg e => match kd with
    | .keys => noSet e && (chk N a).v sc e
    | .values => (match e with
      | .Call (.Attribute a' x p) [] [] q => decide (("values" : Str) = x) && (plainB a' && ((p.endLine == q.line) && (chk N a).v sc a'))
      | _ => false)
    | .items => isTup tg && (match e with
      | .Call (.Attribute a' x p) [] [] q => decide (("items" : Str) = x) && (plainB a' && ((p.endLine == q.line) && (chk N a).v sc a'))
      | _ => false) }
  | .mk c _ _ _ es => .of fun sc e => match e with
    | .Call (.Name x _) (y :: ys) [] _ => decide (c = x) && (nameOk sc x && (chk N es).a sc (y :: ys))
    | _ => false
  | .mkk c _ _ n ks _ es kes => .of fun sc e => match e with
    | .Call (.Name x _) ys kws _ => decide (c = x) && (nameOk sc x && (decide (ys.length = n) && (!kws.isEmpty && ((chk N es).a sc ys && (chk N kes).kw sc ks kws))))
    | _ => false
  | .eqm _ _ a b => .of2 (fun sc e => match e with
    | .Compare a' [.Eq] [b'] _ => !behindInMarks .Eq b' && ((chk N a).v sc a' && (chk N b).v sc b')
    | _ => false) fun sc e => match e with
    | .Compare a' [.Eq] [b'] _ => !behindInMarks .Eq b' && ((chk N a).v sc a' && (chk N b).v sc b')
    | _ => false
  | .dis es => .of fun sc e => match e with
    | .Dict ks vs _ => ks.all (·.isSome) && (decide (ks.length = vs.length) && (!ks.isEmpty && (decide (ks.length ≤ 15) && (chk N es).prs sc ks vs)))
    | _ => false
  | .pr kk e es => { Rc.no with prs := fun sc ks vs => match ks, vs with
    | some x :: ks, y :: vs => (chk N kk).v sc x && ((chk N e).v sc y && (chk N es).prs sc ks vs)
    | _, _ => false }
  | .addl _ a b => .of fun sc e => match e with
    | .BinOp a' .Add b' _ => (chk N a).v sc a' && (chk N b).v sc b'
    | _ => false
end Py
-- PyD
namespace Py
open PySem PySem.Spec PyProof.Rows L2

/-! ### 8. what is wanted -/
variable {B : Bs} {ρ ρ' ρ1 : Rh} {H H' H1 : Hp} {S S' S1 : Store} {env : Env} {σ : L2.St} {X : Cx} {W : WX}
/-- an exception that flies: its class, its fields in its own dict -/
def RepX (B : Bs) (ρ : Rh) (H : Hp) (x : Exn) (cls : Value) (dd : Option Addr) : Prop :=
  cls = .ref (He.ga B.K x.cls) ∧ ∃ (a : Addr) (fs : List (Str × V)), dd = some a ∧ H a = some (.xd fs) ∧ a ∉ ρ ∧ ∀ n d, x.fs.lookup n = some d → ∃ v, fs.lookup n = some v ∧ Rep B ρ H d v
theorem RepX.mono (e : Ext ρ H ρ' H') {x : Exn} {cls : Value} {dd : Option Addr} (h : RepX B ρ H x cls dd) : RepX B ρ' H' x cls dd := by
  obtain ⟨h1, a, fs, h2, h3, h4, h5⟩ := h
  exact ⟨h1, a, fs, h2, e.keep _ _ h3 h4, e.out h3 h4, fun n d q => let ⟨v, z, r⟩ := h5 n d q; ⟨v, z, Rep.mono e _ _ r⟩⟩
def KV1 (B : Bs) (Q : VK) : D → Rh → Store → Hp → Prop := fun d ρ' _ H' => ∀ v, Rep B ρ' H' d v → Q v H'
def KL1 (B : Bs) (Q : List V → Hp → Prop) : List D → Rh → Store → Hp → Prop := fun d ρ' _ H' => ∀ v, RepL B ρ' H' d v → Q v H'
def KX (B : Bs) (W : WX) (σ : L2.St) : Exn → Rh → Store → Hp → Prop := fun x ρ' _ H' => ∀ cls dd, RepX B ρ' H' x cls dd → W cls dd σ H'
def tE (B : Bs) (W : WX) (c : E) : TE := fun σ H Q => ∃ ρ env S, RepS B ρ H env σ ∧ Sim B ρ S H ∧ Go B ρ H (ev c env S) (KV1 B Q) (KX B W σ)
def tT (B : Bs) (W : WX) (c : E) : TT := fun σ H Q => ∃ ρ env S, RepS B ρ H env σ ∧ Sim B ρ S H ∧ Go B ρ H (tst c env S) (fun b _ _ H' => Q b H') (KX B W σ)
def tA (B : Bs) (W : WX) (c : E) : TA := fun σ H Q => ∃ ρ env S, RepS B ρ H env σ ∧ Sim B ρ S H ∧ Go B ρ H (evA c env S) (KL1 B Q) (KX B W σ)
def tO (B : Bs) (W : WX) (c : E) : TO := fun σ H Q => ∃ ρ env S, RepS B ρ H env σ ∧ Sim B ρ S H ∧ Go B ρ H (evO c env S) (fun o _ _ H' => Q o H') (KX B W σ)
theorem Go.bindM {α β : Type} {m : M α} {f : α → M β} {S : Store} {k : β → Rh → Store → Hp → Prop} {kx : Exn → Rh → Store → Hp → Prop} (g : Go B ρ H (M.bind m f S) k kx) :
    Go B ρ H (m S) (fun a ρ' S' H' => Go B ρ' H' (f a S') k kx) kx := Go.bind g
section
variable {c : E} {α : Type} {k : α → Rh → Store → Hp → Prop}
theorem subE {f : D → M α} {Q : VK} (hs : RepS B ρ H env σ) (s : Sim B ρ S H) (g : Go B ρ H (M.bind (ev c env) f S) k (KX B W σ))
    (hk : ∀ d v ρ1 S1 H1, Ext ρ H ρ1 H1 → RepS B ρ1 H1 env σ → Sim B ρ1 S1 H1 → Rep B ρ1 H1 d v → Go B ρ1 H1 (f d S1) k (KX B W σ) → Q v H1) : tE B W c σ H Q :=
  ⟨ρ, env, S, hs, s, (Go.bindM g).imp (fun d ρ1 S1 H1 e s1 g1 v r => hk d v ρ1 S1 H1 e (hs.mono e) s1 r g1) fun _ _ _ _ _ _ h => h⟩
theorem subT {f : Bool → M α} {Q : Bool → Hp → Prop} (hs : RepS B ρ H env σ) (s : Sim B ρ S H) (g : Go B ρ H (M.bind (tst c env) f S) k (KX B W σ))
    (hk : ∀ b ρ1 S1 H1, Ext ρ H ρ1 H1 → RepS B ρ1 H1 env σ → Sim B ρ1 S1 H1 → Go B ρ1 H1 (f b S1) k (KX B W σ) → Q b H1) : tT B W c σ H Q :=
  ⟨ρ, env, S, hs, s, (Go.bindM g).imp (fun b ρ1 S1 H1 e s1 g1 => hk b ρ1 S1 H1 e (hs.mono e) s1 g1) fun _ _ _ _ _ _ h => h⟩
theorem subA {f : List D → M α} {Q : List V → Hp → Prop} (hs : RepS B ρ H env σ) (s : Sim B ρ S H) (g : Go B ρ H (M.bind (evA c env) f S) k (KX B W σ))
    (hk : ∀ d v ρ1 S1 H1, Ext ρ H ρ1 H1 → RepS B ρ1 H1 env σ → Sim B ρ1 S1 H1 → RepL B ρ1 H1 d v → Go B ρ1 H1 (f d S1) k (KX B W σ) → Q v H1) : tA B W c σ H Q :=
  ⟨ρ, env, S, hs, s, (Go.bindM g).imp (fun d ρ1 S1 H1 e s1 g1 v r => hk d v ρ1 S1 H1 e (hs.mono e) s1 r g1) fun _ _ _ _ _ _ h => h⟩
theorem subO {f : Option Int → M α} {Q : Option Int → Hp → Prop} (hs : RepS B ρ H env σ) (s : Sim B ρ S H) (g : Go B ρ H (M.bind (evO c env) f S) k (KX B W σ))
    (hk : ∀ b ρ1 S1 H1, Ext ρ H ρ1 H1 → RepS B ρ1 H1 env σ → Sim B ρ1 S1 H1 → Go B ρ1 H1 (f b S1) k (KX B W σ) → Q b H1) : tO B W c σ H Q :=
  ⟨ρ, env, S, hs, s, (Go.bindM g).imp (fun b ρ1 S1 H1 e s1 g1 => hk b ρ1 S1 H1 e (hs.mono e) s1 g1) fun _ _ _ _ _ _ h => h⟩
end
theorem PE.imp {e : PySem.Expr} {t t' : TE} (h : PE X e t) (hi : ∀ σ H Q, t' σ H Q → t σ H Q) : PE X e t' := ⟨fun pins s σ H Q I q => h.run pins s σ H Q I (hi σ H Q q)⟩
theorem PT.imp {e : PySem.Expr} {t t' : TT} (h : PT X e t) (hi : ∀ σ H Q, t' σ H Q → t σ H Q) : PT X e t' := ⟨fun pins s σ H Q I q => h.run pins s σ H Q I (hi σ H Q q)⟩
theorem PW.imp {e : PySem.Expr} {t t' : TT} (h : PW X e t) (hi : ∀ σ H Q, t' σ H Q → t σ H Q) : PW X e t' := ⟨fun wh pins s σ H Q I q => h.run wh pins s σ H Q I (hi σ H Q q)⟩
theorem PA.imp {e : List PySem.Expr} {t t' : TA} (h : PA X e t) (hi : ∀ σ H Q, t' σ H Q → t σ H Q) : PA X e t' := ⟨fun p pins s σ H Q I q => h.run p pins s σ H Q I (hi σ H Q q)⟩
theorem PK.imp {e : List Keyword} {t t' : TA} (h : PK X e t) (hi : ∀ σ H Q, t' σ H Q → t σ H Q) : PK X e t' := ⟨fun p pins s σ H Q I q => h.run p pins s σ H Q I (hi σ H Q q)⟩
theorem PO.imp {e : Option PySem.Expr} {t t' : TO} (h : PO X e t) (hi : ∀ σ H Q, t' σ H Q → t σ H Q) : PO X e t' := ⟨fun pins s σ H Q I q => h.run pins s σ H Q I (hi σ H Q q)⟩
theorem PI.imp {tg e : PySem.Expr} {t t' : TI} (h : PI X tg e t) (hi : ∀ σ H Q, t' σ H Q → t σ H Q) : PI X tg e t' := ⟨fun pins s σ H Q I q => h.run pins s σ H Q I (hi σ H Q q)⟩
theorem PS.imp {e : Stmt} {t t' : TS} (h : PS X e t) (hi : ∀ D σ H, t' D σ H → t D σ H) : PS X e t' := ⟨fun pins s σ H D I q => h.run pins s σ H D I (hi D σ H q)⟩
theorem PSs.imp {e : List Stmt} {t t' : TS} (h : PSs X e t) (hi : ∀ D σ H, t' D σ H → t D σ H) : PSs X e t' := ⟨fun pins s σ H D I q => h.run pins s σ H D I (hi D σ H q)⟩

/-! ### 9. the operations hold -/
/-- an operation on two data -/
def r2 (B : Bs) (f : D → D → M D) : R2 := fun x y H Q => ∃ ρ S d1 d2 kx, Sim B ρ S H ∧ Rep B ρ H d1 x ∧ Rep B ρ H d2 y ∧ Go B ρ H (f d1 d2 S) (KV1 B Q) kx
theorem r2.mk {f : D → D → M D} {x y : V} {Q : VK} {d1 d2 : D} {kx : Exn → Rh → Store → Hp → Prop} (s : Sim B ρ S H) (r1 : Rep B ρ H d1 x) (r2' : Rep B ρ H d2 y) (g : Go B ρ H (f d1 d2 S) (KV1 B Q) kx) : r2 B f x y H Q :=
  ⟨ρ, S, d1, d2, kx, s, r1, r2', g⟩
/-- a new plain object -/
theorem newV {d : D} {o : HO} {Q : VK} {kx : Exn → Rh → Store → Hp → Prop} (s : Sim B ρ S H) (g : Go B ρ H (.ok d S) (KV1 B Q) kx) (hr : ∀ p, H p = none → Rep B ρ (upd H p o) d (.ref p)) : ∀ p, H p = none → Q (.ref p) (upd H p o) :=
  fun p hp => g ρ (upd H p o) (Ext.alloc s o hp) (s.alloc o hp) _ (hr p hp)
theorem nowV {d : D} {v : V} {Q : VK} {kx : Exn → Rh → Store → Hp → Prop} (s : Sim B ρ S H) (g : Go B ρ H (.ok d S) (KV1 B Q) kx) (r : Rep B ρ H d v) : Q v H := g ρ H .refl s v r
theorem newTup {ds : List D} {vs : List V} (s : Sim B ρ S H) (r : RepL B ρ H ds vs) : ∀ p, H p = none → Rep B ρ (upd H p (.tup vs)) (.tup ds) (.ref p) :=
  fun p hp => .tup (s.fresh hp) upd_same (RepL.mono (Ext.alloc s _ hp) _ _ r)
theorem newLst {ds : List D} {vs : List V} (s : Sim B ρ S H) (r : RepL B ρ H ds vs) : ∀ p, H p = none → Rep B ρ (upd H p (.lst vs)) (.lst ds) (.ref p) :=
  fun p hp => .lst (s.fresh hp) upd_same (RepL.mono (Ext.alloc s _ hp) _ _ r)
theorem newMk {m : Bool} {ds : List D} {vs : List V} {Q : VK} {kx : Exn → Rh → Store → Hp → Prop} (s : Sim B ρ S H) (r : RepL B ρ H ds vs) (g : Go B ρ H (mkL m ds S) (KV1 B Q) kx) : ∀ p, H p = none → Q (.ref p) (upd H p (.lst vs)) := by
  intro p hp
  cases m with
  | false => exact newV s g (newLst s r) p hp
  | true =>
    have e := Ext.allocC s (.lst vs) hp
    refine g (ρ.more p) (upd H p (.lst vs)) e (s.allocC hp (.lst upd_same (RepL.mono e _ _ r))) _ (.cell ?_)
    rw [← s.len]
    exact more_at ρ p
theorem rep_tup {ds : List D} {v : V} (h : Rep B ρ H (.tup ds) v) : ∃ a vs, v = .ref a ∧ a ∉ ρ ∧ H a = some (.tup vs) ∧ RepL B ρ H ds vs := by
  cases h with
  | tup n q r => exact ⟨_, _, rfl, n, q, r⟩
theorem rep_lst {ds : List D} {v : V} (h : Rep B ρ H (.lst ds) v) : ∃ a vs, v = .ref a ∧ a ∉ ρ ∧ H a = some (.lst vs) ∧ RepL B ρ H ds vs := by
  cases h with
  | lst n q r => exact ⟨_, _, rfl, n, q, r⟩
theorem fits_le {n : Nat} (h : fits n = true) : n ≤ sizeLine := of_decide_eq_true h
theorem op_bin_add : OpR X (binaryOp .Add) (r2 B (opBin .add)) := by
  intro pins s σ H x y v u Q I rx ry ⟨ρ, S, d1, d2, kx, hs, h1, h2, g⟩
  cases d1 with
  | int i => cases d2 with
    | int j =>
      cases h1; cases h2
      exact op_add pins s σ H _ _ v u Q I rx ry ⟨i, j, rfl, rfl, nowV hs g (.int _)⟩
    | _ => exact g.elim
  | str i => cases d2 with
    | str j =>
      cases h1; cases h2
      have g1 : Go B ρ H ((if fits (i.length + j.length) then M.pure (.str (i ++ j)) else M.fail : M D) S) (KV1 B Q) kx := g
      by_cases c : fits (i.length + j.length) = true
      · rw [if_pos c] at g1
        exact op_add_str pins s σ H _ _ v u Q I rx ry ⟨i, j, rfl, rfl, fits_le c, nowV hs g1 (.str _)⟩
      · rw [if_neg c] at g1
        exact g1.elim
    | _ => exact g.elim
  | tup i => cases d2 with
    | tup j =>
      obtain ⟨a, vs, rfl, n1, q1, r1⟩ := rep_tup h1
      obtain ⟨b, ws, rfl, n2, q2, r2⟩ := rep_tup h2
      have g1 : Go B ρ H ((if fits (i.length + j.length) then M.pure (.tup (i ++ j)) else M.fail : M D) S) (KV1 B Q) kx := g
      by_cases c : fits (i.length + j.length) = true
      · rw [if_pos c] at g1
        refine op_catA pins s σ H _ _ v u Q I rx ry ⟨a, b, vs, ws, rfl, rfl, SqT.of q1, SqT.of q2, by rw [← r1.len, ← r2.len]; exact fits_le c, fun e => ?_, fun _ e => ?_, fun _ _ => newV hs g1 (newTup hs (r1.append r2))⟩
        · subst e
          cases r1
          exact nowV hs g1 h2
        · subst e
          cases r2
          refine nowV hs g1 ?_
          rw [List.append_nil]
          exact h1
      · rw [if_neg c] at g1
        exact g1.elim
    | _ => exact g.elim
  | lst i => cases d2 with
    | lst j =>
      obtain ⟨a, vs, rfl, n1, q1, r1⟩ := rep_lst h1
      obtain ⟨b, ws, rfl, n2, q2, r2⟩ := rep_lst h2
      have g1 : Go B ρ H ((if fits (i.length + j.length) then M.pure (.lst (i ++ j)) else M.fail : M D) S) (KV1 B Q) kx := g
      by_cases c : fits (i.length + j.length) = true
      · rw [if_pos c] at g1
        exact op_cat pins s σ H _ _ v u Q I rx ry ⟨a, b, vs, ws, rfl, rfl, q1, q2, by rw [← r1.len, ← r2.len]; exact fits_le c, newV hs g1 (newLst hs (r1.append r2))⟩
      · rw [if_neg c] at g1
        exact g1.elim
    | _ => exact g.elim
  | _ => exact g.elim
theorem op_bin_sub : OpR X (binaryOp .Sub) (r2 B (opBin .sub)) := by
  intro pins s σ H x y v u Q I rx ry ⟨ρ, S, d1, d2, kx, hs, h1, h2, g⟩
  cases d1 with
  | int i => cases d2 with
    | int j =>
      cases h1; cases h2
      exact op_sub pins s σ H _ _ v u Q I rx ry ⟨i, j, rfl, rfl, nowV hs g (.int _)⟩
    | _ => exact g.elim
  | _ => exact g.elim
theorem op_bin_mod : OpR X (binaryOp .Mod) (r2 B (opBin .mod)) := by
  intro pins s σ H x y v u Q I rx ry ⟨ρ, S, d1, d2, kx, hs, h1, h2, g⟩
  cases d1 with
  | int i => cases d2 with
    | int j =>
      cases h1; cases h2
      have g1 : Go B ρ H ((if j = 0 then M.fail else M.pure (.int (i.fmod j)) : M D) S) (KV1 B Q) kx := g
      by_cases c : j = 0
      · rw [if_pos c] at g1
        exact g1.elim
      · rw [if_neg c] at g1
        exact op_modN pins s σ H _ _ v u Q I rx ry ⟨i, j, rfl, rfl, c, nowV hs g1 (.int _)⟩
    | _ => exact g.elim
  | _ => exact g.elim
theorem op_bin_fdiv : OpR X (binaryOp .FloorDiv) (r2 B (opBin .fdiv)) := by
  intro pins s σ H x y v u Q I rx ry ⟨ρ, S, d1, d2, kx, hs, h1, h2, g⟩
  cases d1 with
  | int i => cases d2 with
    | int j =>
      cases h1; cases h2
      have g1 : Go B ρ H ((if decide (j ≠ 0) && decide (j.natAbs < 1073741824) then M.pure (.int (i.fdiv j)) else M.fail : M D) S) (KV1 B Q) kx := g
      by_cases c : (decide (j ≠ 0) && decide (j.natAbs < 1073741824)) = true
      · rw [if_pos c] at g1
        obtain ⟨c1, c2⟩ := Bool.and_eq_true_iff.mp c
        exact op_fdivN pins s σ H _ _ v u Q I rx ry ⟨i, j, rfl, rfl, ⟨of_decide_eq_true c1, of_decide_eq_true c2⟩, nowV hs g1 (.int _)⟩
      · rw [if_neg c] at g1
        exact g1.elim
    | _ => exact g.elim
  | _ => exact g.elim
theorem op_bin_pow : OpR X (binaryOp .Pow) (r2 B (opBin .pow)) := by
  intro pins s σ H x y v u Q I rx ry ⟨ρ, S, d1, d2, kx, hs, h1, h2, g⟩
  cases d1 with
  | int i => cases d2 with
    | int j =>
      cases h1; cases h2
      have g1 : Go B ρ H ((if decide (0 ≤ j) && (decide (j ≤ 1000000) && decide (i.natAbs < 2 ^ 64)) then M.pure (.int (i ^ j.toNat)) else M.fail : M D) S) (KV1 B Q) kx := g
      by_cases c : (decide (0 ≤ j) && (decide (j ≤ 1000000) && decide (i.natAbs < 2 ^ 64))) = true
      · rw [if_pos c] at g1
        obtain ⟨c1, c2⟩ := Bool.and_eq_true_iff.mp c
        obtain ⟨c2, c3⟩ := Bool.and_eq_true_iff.mp c2
        exact op_pow pins s σ H _ _ v u Q I rx ry ⟨i, j, rfl, rfl, ⟨of_decide_eq_true c1, of_decide_eq_true c2, of_decide_eq_true c3⟩, nowV hs g1 (.int _)⟩
      · rw [if_neg c] at g1
        exact g1.elim
    | _ => exact g.elim
  | _ => exact g.elim
end Py
-- PyD2
namespace Py
open PySem PySem.Spec PyProof.Rows L2
/-! ### 9b. t * 1, () * k -/
theorem tuple_mul1 (l : Addr) (items : Array Value) (n : Nat) (x : Int) (u : Tok) (c0 : (decide (x < -(2 ^ 63)) || decide (x ≥ 2 ^ 63)) = false) (c1 : (items.isEmpty || x == 1) = true) (sl : Array (Option Value)) (dd : Option Addr) :
    Meets (Builtin.«tuple.__mul__» ⟨[.ref l, .int x u], []⟩) (fun _ R s => s.heap.get? l = some { cls := .type "tuple", dict := dd, data := .seq items n, slots := sl } ∧
      R (.ok (.ret (Value.ref l))) s) :=
  .of_wp fun prog w A R s h => by
    obtain ⟨hp, g, d, tk, os⟩ := s
    obtain ⟨hl, h⟩ := h
    have f1 := AutoSeq1.idx_int
    wp_walk using wpAny_loadPart' hl
    repeat (first
      | (refine wpAny_ite_false (decide_eq_false (by rw [c0]; exact Bool.false_ne_true)) ?_; wp_walk using wpAny_loadPart' hl)
      | (refine wpAny_ite_true (decide_eq_true c1) ?_; wp_walk using wpAny_loadPart' hl))
    exact ⟨_, rfl, h⟩
/-- t * 1, () * k: t itself -/
theorem op_repT1 : OpR X (binaryOp .Mult) (fun x y H Q => ∃ l k xs, x = .ref l ∧ y = .int k ∧ SqT X.K H l xs ∧ (xs = [] ∨ k = 1) ∧ 1 ≤ k ∧ k ≤ 1000 ∧ Q (.ref l) H) := by
  intro pins s σ H x y v u Q I rx ry h
  obtain ⟨l, k, xs, rfl, rfl, hT, hne, h1, h2, q⟩ := h
  cases rx
  obtain ⟨t, rfl⟩ := ry
  obtain ⟨its, r, ⟨⟨cls, dd, data, sl⟩, ho, hc, n, hd⟩, hs⟩ := I.tuple hT
  simp only at hc hd
  subst hc hd
  have c0 : (decide (k < -(2 ^ 63)) || decide (k ≥ 2 ^ 63)) = false := by
    rw [decide_eq_false (by omega), decide_eq_false (by omega)] <;> rfl
  have c1 : (its.toArray.isEmpty || k == 1) = true := by
    rcases hne with e | e
    · subst e
      cases r
      rfl
    · subst e
      exact Bool.or_true _
  refine wpAny_binaryOp_repeat_ref (T := "tuple") (U := "int") (by decide) ⟨_, ho, rfl⟩ (fun s' => typeIs_int s' k t) noFill_tuple_mul F.fills_int_mul F.slot_int_rmul repeat_tuple F.slot_int_index.lookup
    (call_meets F.slot_int_rmul (typeIs_int s k t) F.entry_int_rmul (F.args_int_rmul_2 _ _) (int_rmul_tuple k t l its.toArray n dd sl)
      ⟨ho, rfl, ⟨_, ho, rfl⟩, call_meets F.slot_tuple_mul ⟨_, ho, rfl⟩ F.entry_tuple_mul (F.args_tuple_mul_2 _ _) (tuple_mul1 l its.toArray n k t c0 c1 sl dd) ⟨ho, ?_⟩⟩)
  exact ⟨.ref l, H, I, rfl, q⟩
theorem flat_one {α : Type} (xs : List α) : (List.replicate 1 xs).flatten = xs := by simp
theorem flat_nil {α : Type} (k : Nat) : (List.replicate k ([] : List α)).flatten = [] := by simp
theorem RepL.rep {ds : List D} {vs : List V} (h : RepL B ρ H ds vs) : ∀ k : Nat, RepL B ρ H (List.replicate k ds).flatten (List.replicate k vs).flatten
  | 0 => .nil
  | k + 1 => by
    rw [List.replicate_succ, List.replicate_succ, List.flatten_cons, List.flatten_cons]
    exact h.append (RepL.rep h k)
theorem op_bin_mul : OpR X (binaryOp .Mult) (r2 B (opBin .mul)) := by
  intro pins s σ H x y v u Q I rx ry ⟨ρ, S, d1, d2, kx, hs, h1, h2, g⟩
  cases d1 with
  | int i => cases d2 with
    | int j =>
      cases h1; cases h2
      have g1 : Go B ρ H ((if cmul i j then M.pure (.int (i * j)) else M.fail : M D) S) (KV1 B Q) kx := g
      by_cases c : cmul i j = true
      · rw [if_pos c] at g1
        refine op_mul pins s σ H _ _ v u Q I rx ry ⟨i, j, rfl, rfl, ?_, nowV hs g1 (.int _)⟩
        rcases Bool.or_eq_true_iff.mp c with c | c
        · exact .inl ⟨of_decide_eq_true (Bool.and_eq_true_iff.mp c).1, of_decide_eq_true (Bool.and_eq_true_iff.mp c).2⟩
        · exact .inr ⟨of_decide_eq_true (Bool.and_eq_true_iff.mp c).1, of_decide_eq_true (Bool.and_eq_true_iff.mp c).2⟩
      · rw [if_neg c] at g1
        exact g1.elim
    | _ => exact g.elim
  | tup i => cases d2 with
    | int k =>
      obtain ⟨a, vs, rfl, n1, q1, r1⟩ := rep_tup h1
      cases h2
      have g1 : Go B ρ H ((if decide (1 ≤ k) && (decide (k ≤ 1000) && decide (i.length ≤ 1000)) then M.pure (.tup (List.replicate k.toNat i).flatten) else M.fail : M D) S) (KV1 B Q) kx := g
      by_cases c : (decide (1 ≤ k) && (decide (k ≤ 1000) && decide (i.length ≤ 1000))) = true
      · rw [if_pos c] at g1
        obtain ⟨c1, c2⟩ := Bool.and_eq_true_iff.mp c
        obtain ⟨c2, c3⟩ := Bool.and_eq_true_iff.mp c2
        have c1 : 1 ≤ k := of_decide_eq_true c1
        have c2 : k ≤ 1000 := of_decide_eq_true c2
        have c3 : i.length ≤ 1000 := of_decide_eq_true c3
        by_cases e : vs = [] ∨ k = 1
        · refine op_repT1 pins s σ H _ _ v u Q I rx ry ⟨a, k, vs, rfl, rfl, SqT.of q1, e, c1, c2, nowV hs g1 ?_⟩
          rcases e with e | e
          · subst e
            cases r1
            rw [flat_nil]
            exact h1
          · subst e
            rw [show (1 : Int).toNat = 1 from rfl, flat_one]
            exact h1
        · refine op_repT pins s σ H _ _ v u Q I rx ry ⟨a, k, vs, rfl, rfl, SqT.of q1, fun z => e (.inl z), ?_, c2, by rw [← r1.len]; exact c3, newV hs g1 (newTup hs (r1.rep _))⟩
          have : k ≠ 1 := fun z => e (.inr z)
          omega
      · rw [if_neg c] at g1
        exact g1.elim
    | _ => exact g.elim
  | lst i => cases d2 with
    | int k =>
      obtain ⟨a, vs, rfl, n1, q1, r1⟩ := rep_lst h1
      cases h2
      have g1 : Go B ρ H ((if decide (1 ≤ k) && (decide (k ≤ 1000) && decide (i.length ≤ 1000)) then M.pure (.lst (List.replicate k.toNat i).flatten) else M.fail : M D) S) (KV1 B Q) kx := g
      by_cases c : (decide (1 ≤ k) && (decide (k ≤ 1000) && decide (i.length ≤ 1000))) = true
      · rw [if_pos c] at g1
        obtain ⟨c1, c2⟩ := Bool.and_eq_true_iff.mp c
        obtain ⟨c2, c3⟩ := Bool.and_eq_true_iff.mp c2
        have c1 : 1 ≤ k := of_decide_eq_true c1
        have c2 : k ≤ 1000 := of_decide_eq_true c2
        have c3 : i.length ≤ 1000 := of_decide_eq_true c3
        have c4 : vs.length ≤ 1000 := by rw [← r1.len]; exact c3
        refine op_rep pins s σ H _ _ v u Q I rx ry ⟨a, k, vs, rfl, rfl, q1, by omega, by omega, ?_, newV hs g1 (newLst hs (r1.rep _))⟩
        have c5 : k.toNat ≤ 1000 := by omega
        have := Nat.mul_le_mul c4 c5
        have : (1000 * 1000 : Nat) ≤ sizeLine := by decide
        omega
      · rw [if_neg c] at g1
        exact g1.elim
    | _ => exact g.elim
  | _ => exact g.elim
/-- two lists, one behind the other -/
theorem lit_go {α : Type} {f : List D → M α} {kk : α → Rh → Store → Hp → Prop} {kx : Exn → Rh → Store → Hp → Prop} {d : D} {v : V} (s : Sim B ρ S H) (r : Rep B ρ H d v) (gg : Go B ρ H (M.bind (litOf d) f S) kk kx) :
    ∃ a vs xs, v = .ref a ∧ H a = some (.lst vs) ∧ RepL B ρ H xs vs ∧ Go B ρ H (f xs S) kk kx := by
  cases d with
  | lst xs =>
    obtain ⟨a, vs, rfl, n1, q1, r1⟩ := rep_lst r
    exact ⟨a, vs, xs, rfl, q1, r1, gg⟩
  | cell n =>
    cases r with
    | @cell n a ha =>
      obtain ⟨cv, ec, cr⟩ := s.get ha
      have gg : Go B ρ H (M.bind (fun S => match S[n]? with
        | some (.lst xs) => .ok xs S
        | _ => .stuck) f S) kk kx := gg
      unfold M.bind at gg
      simp only [ec] at gg
      cases cv with
      | dic _ _ => exact gg.elim
      | ins _ _ => exact gg.elim
      | lst xs =>
        cases cr with
        | lst q rl => exact ⟨a, _, xs, rfl, q, rl, gg⟩
  | _ => exact gg.elim
theorem op_addl {m : Bool} : OpR X (binaryOp .Add) (r2 B (addL m)) := by
  intro pins s σ H x y v u Q I rx ry ⟨ρ, S, d1, d2, kx, hs, h1, h2, g⟩
  obtain ⟨a, vs, i, rfl, q1, r1, g⟩ := lit_go hs h1 g
  obtain ⟨b, ws, j, rfl, q2, r2, g⟩ := lit_go hs h2 g
  by_cases c : fits (i.length + j.length) = true
  · rw [if_pos c] at g
    exact op_cat pins s σ H _ _ v u Q I rx ry ⟨a, b, vs, ws, rfl, rfl, q1, q2, by rw [← r1.len, ← r2.len]; exact fits_le c, newMk hs (r1.append r2) g⟩
  · rw [if_neg c] at g
    exact g.elim
def binOp : Bop → Operator
  | .add => .Add | .sub => .Sub | .mul => .Mult | .mod => .Mod | .fdiv => .FloorDiv | .pow => .Pow
theorem bopIs_eq {b : Bop} {o : Operator} (h : bopIs b o = true) : o = binOp b := by
  cases b <;> cases o <;> first | rfl | cases h
theorem op_bin (b : Bop) : OpR X (binaryOp (binOp b)) (r2 B (opBin b)) := by
  cases b
  · exact op_bin_add
  · exact op_bin_sub
  · exact op_bin_mul
  · exact op_bin_mod
  · exact op_bin_fdiv
  · exact op_bin_pow
/-! ### 9c. comparisons -/
theorem relV_int {i j : Int} : Rep B ρ H (.int i) (.int j) → i = j := fun h => by cases h; rfl
mutual
theorem toP_dp {K : PySem.W.Frag} (s : Sim B ρ S H) : ∀ (n : Nat) (d : D) (p : PyData) (v : V), toP S n d = some p → Rep B ρ H d v → Dp K H v p
  | 0, d, p, v, h, _ => by cases h
  | n + 1, .non, p, v, h, r => by
    cases r
    have h1 : some PyData.none = some p := h
    cases h1; exact .non
  | n + 1, .bl b, p, v, h, r => by
    cases r
    have h1 : some (PyData.bool b) = some p := h
    cases h1; exact .bl b
  | n + 1, .int b, p, v, h, r => by
    cases r
    have h1 : some (PyData.int b) = some p := h
    cases h1; exact .int b
  | n + 1, .str b, p, v, h, r => by
    cases r
    have h1 : some (PyData.str b) = some p := h
    cases h1; exact .str b
  | n + 1, .tup xs, p, v, h, r => by
    have h1 : (toPs S n xs).map PyData.tuple = some p := h
    obtain ⟨ps, e, rfl⟩ := Option.map_eq_some_iff.mp h1
    obtain ⟨a, vs, rfl, _, q, rl⟩ := rep_tup r
    exact .tup (SqT.of q) (toPs_dp s n xs ps vs e rl)
  | n + 1, .lst xs, p, v, h, r => by
    have h1 : (toPs S n xs).map PyData.list = some p := h
    obtain ⟨ps, e, rfl⟩ := Option.map_eq_some_iff.mp h1
    obtain ⟨a, vs, rfl, _, q, rl⟩ := rep_lst r
    exact .lst (SqL.of q) (toPs_dp s n xs ps vs e rl)
  | n + 1, .cell k, p, v, h, r => by
    cases r with
    | cell q =>
      have h1 : (match S[k]? with
        | some (.lst xs) => (toPs S n xs).map PyData.list
        | _ => none) = some p := h
      obtain ⟨c, e, cr⟩ := s.get q
      rw [e] at h1
      cases cr with
      | lst q2 rl =>
        obtain ⟨ps, e2, rfl⟩ := Option.map_eq_some_iff.mp h1
        exact .lst (SqL.of q2) (toPs_dp s n _ ps _ e2 rl)
      | dic _ _ => cases h1
      | lck _ _ => cases h1
      | ins _ _ _ => cases h1
  | n + 1, .scr _, p, v, h, r => by cases h
  | n + 1, .ins _ _ _, p, v, h, r => by cases h
theorem toPs_dp {K : PySem.W.Frag} (s : Sim B ρ S H) : ∀ (n : Nat) (ds : List D) (ps : List PyData) (vs : List V), toPs S n ds = some ps → RepL B ρ H ds vs → DpAll K H vs ps
  | 0, d, p, v, h, _ => by cases h
  | n + 1, [], ps, vs, h, r => by
    cases r
    have h1 : some ([] : List PyData) = some ps := h
    cases h1; exact .nil
  | n + 1, d :: ds, ps, vs, h, r => by
    cases r with
    | cons r1 rl =>
      have h1 : (match toP S n d, toPs S n ds with
        | some p, some ps => some (p :: ps)
        | _, _ => none) = some ps := h
      cases e1 : toP S n d with
      | none => rw [e1] at h1; cases h1
      | some p =>
        cases e2 : toPs S n ds with
        | none => rw [e1, e2] at h1; cases h1
        | some qs =>
          rw [e1, e2] at h1
          cases h1
          exact .cons (toP_dp s n d p _ e1 r1) (toPs_dp s n ds qs _ e2 rl)
end
theorem eqD_some {a b : D} {k : Bool} (h : eqD S a b = some k) : ∃ p q, toP S 1000 a = some p ∧ toP S 1000 b = some q ∧ SeqAt.shaped p = true ∧ SeqAt.shaped q = true ∧ k = PyData.eqv p q := by
  unfold eqD at h
  cases e1 : toP S 1000 a with
  | none => rw [e1] at h; cases h
  | some p => cases e2 : toP S 1000 b with
    | none => rw [e1, e2] at h; cases h
    | some q =>
      rw [e1, e2] at h
      have h1 : (if (SeqAt.shaped p && SeqAt.shaped q) = true then some (PyData.eqv p q) else none) = some k := h
      by_cases c : (SeqAt.shaped p && SeqAt.shaped q) = true
      · rw [if_pos c] at h1
        cases h1
        exact ⟨p, q, rfl, rfl, (Bool.and_eq_true_iff.mp c).1, (Bool.and_eq_true_iff.mp c).2, rfl⟩
      · rw [if_neg c] at h1
        cases h1
theorem inD_some {a : D} {xs : List D} {k : Bool} (h : inD S a xs = some k) : ∃ p qs, toP S 1000 a = some p ∧ toPs S 1000 xs = some qs ∧ SeqAt.shaped p = true ∧ SeqAt.shaped (.list qs) = true ∧ k = qs.any fun z => PyData.eqv z p := by
  unfold inD at h
  cases e1 : toP S 1000 a with
  | none => rw [e1] at h; cases h
  | some p => cases e2 : toPs S 1000 xs with
    | none => rw [e1, e2] at h; cases h
    | some q =>
      rw [e1, e2] at h
      have h1 : (if (SeqAt.shaped p && SeqAt.shaped (.list q)) = true then some (q.any fun z => PyData.eqv z p) else none) = some k := h
      by_cases c : (SeqAt.shaped p && SeqAt.shaped (.list q)) = true
      · rw [if_pos c] at h1
        cases h1
        exact ⟨p, q, rfl, rfl, (Bool.and_eq_true_iff.mp c).1, (Bool.and_eq_true_iff.mp c).2, rfl⟩
      · rw [if_neg c] at h1
        cases h1
/-- a run that gives what an option holds -/
theorem go_opt {α : Type} {o : Option α} {k : α → Rh → Store → Hp → Prop} {kx : Exn → Rh → Store → Hp → Prop} (g : Go B ρ H (M.opt o S) k kx) : ∃ a, o = some a ∧ Go B ρ H (.ok a S) k kx := by
  cases o with
  | none => exact g.elim
  | some a => exact ⟨a, rfl, g⟩
theorem op_cmp_eq (hu : X.A.units + 64 < cLine) : OpR X (compareOp .Eq) (r2 B (opCmp .eq)) := by
  intro pins s σ H x y v u Q I rx ry ⟨ρ, S, d1, d2, kx, hs, h1, h2, g⟩
  obtain ⟨d, e, g1⟩ := go_opt (show Go B ρ H (M.opt ((eqD S d1 d2).map .bl) S) (KV1 B Q) kx from g)
  obtain ⟨k, e2, rfl⟩ := Option.map_eq_some_iff.mp e
  obtain ⟨p, q, e3, e4, z1, z2, rfl⟩ := eqD_some e2
  exact op_eqD hu pins s σ H _ _ v u Q I rx ry ⟨p, q, toP_dp hs _ _ _ _ e3 h1, toP_dp hs _ _ _ _ e4 h2, z1, z2, nowV hs g1 (.bl _)⟩
theorem op_cmp_ne (hu : X.A.units + 64 < cLine) : OpR X (compareOp .NotEq) (r2 B (opCmp .ne)) := by
  intro pins s σ H x y v u Q I rx ry ⟨ρ, S, d1, d2, kx, hs, h1, h2, g⟩
  obtain ⟨d, e, g1⟩ := go_opt (show Go B ρ H (M.opt ((eqD S d1 d2).map fun k => .bl (!k)) S) (KV1 B Q) kx from g)
  obtain ⟨k, e2, rfl⟩ := Option.map_eq_some_iff.mp e
  obtain ⟨p, q, e3, e4, z1, z2, rfl⟩ := eqD_some e2
  exact op_neD hu pins s σ H _ _ v u Q I rx ry ⟨p, q, toP_dp hs _ _ _ _ e3 h1, toP_dp hs _ _ _ _ e4 h2, z1, z2, nowV hs g1 (.bl _)⟩
theorem op_cmp_ints {op : CmpOp} {c : Cop} {f : Int → Int → Bool} (ho : OpR X (compareOp op) (rI0 fun i j => .bl (f i j))) (hi : ∀ i j, opCmp c (.int i) (.int j) = M.pure (.bl (f i j)))
    (hn : ∀ a b, (∀ i j, ¬ (a = .int i ∧ b = .int j)) → opCmp c a b = M.fail) : OpR X (compareOp op) (r2 B (opCmp c)) := by
  intro pins s σ H x y v u Q I rx ry ⟨ρ, S, d1, d2, kx, hs, h1, h2, g⟩
  by_cases e : ∃ i j, d1 = .int i ∧ d2 = .int j
  · obtain ⟨i, j, rfl, rfl⟩ := e
    cases h1; cases h2
    rw [hi] at g
    exact ho pins s σ H _ _ v u Q I rx ry ⟨i, j, rfl, rfl, nowV hs g (.bl _)⟩
  · rw [hn d1 d2 fun i j z => e ⟨i, j, z⟩] at g
    exact g.elim
theorem fail_ints {c : Cop} (hc : c = .lt ∨ c = .le ∨ c = .gt ∨ c = .ge) (a b : D) (h : ∀ i j, ¬ (a = .int i ∧ b = .int j)) : opCmp c a b = M.fail := by
  cases a with
  | int i => cases b with
    | int j => exact absurd ⟨rfl, rfl⟩ (h i j)
    | _ => rcases hc with rfl | rfl | rfl | rfl <;> rfl
  | _ => rcases hc with rfl | rfl | rfl | rfl <;> rfl
theorem op_cmp_lt : OpR X (compareOp .Lt) (r2 B (opCmp .lt)) := op_cmp_ints op_lt (fun _ _ => rfl) (fail_ints (.inl rfl))
theorem op_cmp_le : OpR X (compareOp .LtE) (r2 B (opCmp .le)) := op_cmp_ints op_le (fun _ _ => rfl) (fail_ints (.inr (.inl rfl)))
theorem op_cmp_gt : OpR X (compareOp .Gt) (r2 B (opCmp .gt)) := op_cmp_ints op_gt (fun _ _ => rfl) (fail_ints (.inr (.inr (.inl rfl))))
theorem op_cmp_ge : OpR X (compareOp .GtE) (r2 B (opCmp .ge)) := op_cmp_ints op_ge (fun _ _ => rfl) (fail_ints (.inr (.inr (.inr rfl))))
theorem isD_non {d : D} {v : V} (h : Rep B ρ H d v) : isD d .non = some (decide (v = .non)) := by
  cases h <;> rfl
theorem isD_cases {a b : D} {k : Bool} (h : isD a b = some k) : b = .non ∨ ∃ i j, a = .bl i ∧ b = .bl j ∧ k = decide (i = j) := by
  cases b with
  | non => exact .inl rfl
  | bl j => cases a with
    | bl i =>
      have h1 : some (decide (i = j)) = some k := h
      cases h1
      exact .inr ⟨i, j, rfl, rfl, rfl⟩
    | _ => cases h
  | _ => cases a <;> cases h
theorem op_cmp_is : OpR X (compareOp .Is) (r2 B (opCmp .is)) := by
  intro pins s σ H x y v u Q I rx ry ⟨ρ, S, d1, d2, kx, hs, h1, h2, g⟩
  obtain ⟨d, e, g1⟩ := go_opt (show Go B ρ H (M.opt ((isD d1 d2).map .bl) S) (KV1 B Q) kx from g)
  obtain ⟨k, e2, rfl⟩ := Option.map_eq_some_iff.mp e
  rcases isD_cases e2 with rfl | ⟨i, j, rfl, rfl, rfl⟩
  · rw [isD_non h1] at e2
    cases e2
    cases h2
    exact op_isN pins s σ H _ _ v u Q I rx ry ⟨rfl, nowV hs g1 (.bl _)⟩
  · cases h1; cases h2
    exact op_isBl pins s σ H _ _ v u Q I rx ry ⟨i, j, rfl, rfl, nowV hs g1 (.bl _)⟩
theorem op_cmp_isnot : OpR X (compareOp .IsNot) (r2 B (opCmp .isnot)) := by
  intro pins s σ H x y v u Q I rx ry ⟨ρ, S, d1, d2, kx, hs, h1, h2, g⟩
  obtain ⟨d, e, g1⟩ := go_opt (show Go B ρ H (M.opt ((isD d1 d2).map fun k => .bl (!k)) S) (KV1 B Q) kx from g)
  obtain ⟨k, e2, rfl⟩ := Option.map_eq_some_iff.mp e
  rcases isD_cases e2 with rfl | ⟨i, j, rfl, rfl, rfl⟩
  · rw [isD_non h1] at e2
    cases e2
    cases h2
    exact op_notN pins s σ H _ _ v u Q I rx ry ⟨rfl, nowV hs g1 (.bl _)⟩
  · cases h1; cases h2
    exact op_notBl pins s σ H _ _ v u Q I rx ry ⟨i, j, rfl, rfl, nowV hs g1 (.bl _)⟩
end Py
-- PyD3
namespace Py
open PySem PySem.Spec PyProof.Rows L2
/-! ### 9d. dicts -/
theorem KRep.val : ∀ {kvs : List (Key × D)} {kws : List (Key × V)}, KRep B ρ H kvs kws → ∀ k, (valD kvs k = none ∧ valV kws k = none) ∨ ∃ d v, valD kvs k = some d ∧ valV kws k = some v ∧ Rep B ρ H d v
  | _, _, .nil, k => .inl ⟨rfl, rfl⟩
  | p :: r, q :: t, .cons z zs, k => by
    have ih := KRep.val zs k
    by_cases e : p.1 = k
    · refine .inr ⟨p.2, q.2, ?_, valV_pos (z.1 ▸ e), z.2⟩
      simp [valD, List.find?_cons, e]
    · have e' : ¬ q.1 = k := by rw [← z.1]; exact e
      rw [valV_neg e']
      have : valD (p :: r) k = valD r k := by simp [valD, List.find?_cons, e]
      rw [this]
      exact ih
theorem KRep.any {k : Key} : ∀ {kvs : List (Key × D)} {kws : List (Key × V)}, KRep B ρ H kvs kws → (kvs.any fun kv => decide (kv.1 = k)) = kws.any fun kv => decide (kv.1 = k)
  | _, _, .nil => rfl
  | p :: r, q :: t, .cons z zs => by rw [List.any_cons, List.any_cons, KRep.any zs, z.1]
theorem KRep.repl {k : Key} {d : D} {v : V} (rv : Rep B ρ H d v) : ∀ {kvs : List (Key × D)} {kws : List (Key × V)}, KRep B ρ H kvs kws →
    KRep B ρ H (kvs.map fun kv => if kv.1 = k then (kv.1, d) else kv) (kws.map fun kv => if kv.1 = k then (kv.1, v) else kv)
  | _, _, .nil => .nil
  | p :: r, q :: t, .cons z zs => by
    rw [List.map_cons, List.map_cons]
    refine .cons ?_ (KRep.repl rv zs)
    by_cases e : p.1 = k
    · rw [if_pos e, if_pos (z.1 ▸ e)]
      exact ⟨z.1, rv⟩
    · rw [if_neg e, if_neg (by rw [← z.1]; exact e)]
      exact z
theorem KRep.snoc {k : Key} {d : D} {v : V} (rv : Rep B ρ H d v) : ∀ {kvs : List (Key × D)} {kws : List (Key × V)}, KRep B ρ H kvs kws → KRep B ρ H (kvs ++ [(k, d)]) (kws ++ [(k, v)])
  | _, _, .nil => .cons ⟨rfl, rv⟩ .nil
  | _, _, .cons z zs => .cons z (KRep.snoc rv zs)
theorem KRep.put {k : Key} {d : D} {v : V} (rv : Rep B ρ H d v) {kvs : List (Key × D)} {kws : List (Key × V)} (h : KRep B ρ H kvs kws) : KRep B ρ H (putD kvs k d) (putK kws k v) := by
  unfold putD putK
  rw [KRep.any h]
  by_cases c : (kws.any fun kv => decide (kv.1 = k)) = true
  · rw [if_pos c, if_pos c]
    exact KRep.repl rv h
  · rw [if_neg c, if_neg c]
    exact KRep.snoc rv h
theorem KRep.length {kvs : List (Key × D)} {kws : List (Key × V)} (h : KRep B ρ H kvs kws) : kvs.length = kws.length := Paired.length h
theorem keyOf_rep {d : D} {k : Key} {v : V} (h : keyOf d = some k) (r : Rep B ρ H d v) : v = kV k := by
  cases r with
  | int i => cases h; rfl
  | str i => cases h; rfl
  | _ => cases h
theorem key_rep (k : Key) : ∃ d, keyOf d = some k ∧ Rep B ρ H d (kV k) := by
  cases k with
  | inl i => exact ⟨.int i, rfl, .int i⟩
  | inr i => exact ⟨.str i, rfl, .str i⟩
/-- the dict at the n-th mutable object, as it is read -/
theorem cell_dic {a : Addr} {lk : Bool} {kvs : List (Key × D)} (r : CRep B ρ H (.dic lk kvs) a) : ∃ kws, Rd H a (.dK kws) ∧ KRep B ρ H kvs kws := by
  cases r with
  | dic q r => exact ⟨_, .inl q, r⟩
  | lck q r => exact ⟨_, .inr ⟨_, q⟩, r⟩
theorem cell_lst {a : Addr} {ds : List D} (r : CRep B ρ H (.lst ds) a) : ∃ vs, H a = some (.lst vs) ∧ RepL B ρ H ds vs := by
  cases r with
  | lst q r => exact ⟨_, q, r⟩
theorem dget_cell {a : Addr} {lk : Bool} {kvs : List (Key × D)} (r : CRep B ρ H (.dic lk kvs) a) (k : Key) : ∃ o, DGet H a (kV k) o ∧ ((valD kvs k = none ∧ o = none) ∨ ∃ d v, valD kvs k = some d ∧ o = some v ∧ Rep B ρ H d v) := by
  obtain ⟨kws, q, r⟩ := cell_dic r
  exact ⟨valV kws k, .inl ⟨kws, k, q, rfl, rfl⟩, KRep.val r k⟩
/-! ### 9e. in -/
theorem vOf_rep {d : D} {v u : V} (h : vOf d = some u) (r : Rep B ρ H d v) : v = u ∧ flatV u = true := by
  cases r with
  | non => cases h; exact ⟨rfl, rfl⟩
  | bl b => cases h; exact ⟨rfl, rfl⟩
  | int b => cases h; exact ⟨rfl, rfl⟩
  | str b => cases h; exact ⟨rfl, rfl⟩
  | _ => cases h
theorem vsOf_rep : ∀ {ds : List D} {vs us : List V}, vsOf ds = some us → RepL B ρ H ds vs → vs = us ∧ us.all flatV = true
  | [], _, _, h, r => by
    cases r
    cases h
    exact ⟨rfl, rfl⟩
  | d :: ds, _, us, h, r => by
    cases r with
    | cons r1 rl =>
      have h : (match vOf d, vsOf ds with
        | some v, some vs => some (v :: vs)
        | _, _ => none) = some us := h
      cases e1 : vOf d with
      | none => rw [e1] at h; cases h
      | some u =>
        cases e2 : vsOf ds with
        | none => rw [e1, e2] at h; cases h
        | some us' =>
          rw [e1, e2] at h
          cases h
          obtain ⟨rfl, f1⟩ := vOf_rep e1 r1
          obtain ⟨rfl, f2⟩ := vsOf_rep e2 rl
          exact ⟨rfl, by rw [List.all_cons, f1, f2] <;> rfl⟩
theorem isIn_cases {a b : D} {k : Bool} {S2 : Store} (h : isInD a b S = .ok k S2) : S2 = S ∧
    ((∃ c z, a = .str ⟨#[c]⟩ ∧ b = .str z ∧ k = decide (c ∈ z.cps.toList)) ∨ (∃ xs, b = .lst xs ∧ inD S a xs = some k) ∨ (∃ n xs, b = .cell n ∧ S[n]? = some (.lst xs) ∧ inD S a xs = some k) ∨
      (∃ n lk kvs q, b = .cell n ∧ S[n]? = some (.dic lk kvs) ∧ keyOf a = some q ∧ k = (valD kvs q).isSome) ∨ ∃ xs u us, b = .tup xs ∧ vOf a = some u ∧ vsOf xs = some us ∧ k = inV u us) := by
  cases b with
  | str z => cases a with
    | str c =>
      have h1 : (match c.cps.toList with
        | [k] => M.pure (decide (k ∈ z.cps.toList))
        | _ => M.fail : M Bool) S = .ok k S2 := h
      obtain ⟨⟨l⟩⟩ := c
      match l, h1 with
      | [], h1 => cases h1
      | [p], h1 =>
        cases h1
        exact ⟨rfl, .inl ⟨p, z, rfl, rfl, rfl⟩⟩
      | _ :: _ :: _, h1 => cases h1
    | _ => cases h
  | lst xs =>
    have h1 : M.opt (inD S a xs) S = .ok k S2 := h
    cases e : inD S a xs with
    | none => rw [e] at h1; cases h1
    | some q =>
      rw [e] at h1
      cases h1
      exact ⟨rfl, .inr (.inl ⟨xs, rfl, e⟩)⟩
  | cell n =>
    have h1 : (match S[n]? with
      | some (.lst xs) => M.opt (inD S a xs) S
      | some (.dic _ kvs) => (match keyOf a with
        | some k => .ok ((valD kvs k).isSome) S
        | none => .stuck)
      | _ => .stuck : Out Bool) = .ok k S2 := h
    cases e : S[n]? with
    | none => rw [e] at h1; cases h1
    | some c =>
      rw [e] at h1
      cases c with
      | lst xs =>
        have h2 : M.opt (inD S a xs) S = .ok k S2 := h1
        cases e2 : inD S a xs with
        | none => rw [e2] at h2; cases h2
        | some q =>
          rw [e2] at h2
          cases h2
          exact ⟨rfl, .inr (.inr (.inl ⟨n, xs, rfl, e, e2⟩))⟩
      | dic lk kvs =>
        have h2 : (match keyOf a with
          | some k => .ok ((valD kvs k).isSome) S
          | none => .stuck : Out Bool) = .ok k S2 := h1
        cases e2 : keyOf a with
        | none => rw [e2] at h2; cases h2
        | some q =>
          rw [e2] at h2
          cases h2
          exact ⟨rfl, .inr (.inr (.inr (.inl ⟨n, lk, kvs, q, rfl, e, rfl, rfl⟩)))⟩
      | ins _ _ => cases h1
  | tup xs =>
    have h1 : M.opt (match vOf a, vsOf xs with | some u, some us => some (inV u us) | _, _ => none) S = .ok k S2 := h
    cases e1 : vOf a with
    | none => rw [e1] at h1; cases h1
    | some u =>
      cases e2 : vsOf xs with
      | none => rw [e1, e2] at h1; cases h1
      | some us =>
        rw [e1, e2] at h1
        cases h1
        exact ⟨rfl, .inr (.inr (.inr (.inr ⟨xs, u, us, rfl, rfl, e2, rfl⟩)))⟩
  | _ => cases h
theorem isIn_noexc {a b : D} {x : Exn} {S2 : Store} (h : isInD a b S = .exc x S2) : False := by
  cases b with
  | str z => cases a with
    | str c =>
      have h1 : (match c.cps.toList with
        | [k] => M.pure (decide (k ∈ z.cps.toList))
        | _ => M.fail : M Bool) S = .exc x S2 := h
      obtain ⟨⟨l⟩⟩ := c
      match l, h1 with
      | [], h1 => cases h1
      | [p], h1 => cases h1
      | _ :: _ :: _, h1 => cases h1
    | _ => cases h
  | lst xs =>
    have h1 : M.opt (inD S a xs) S = .exc x S2 := h
    cases e : inD S a xs <;> rw [e] at h1 <;> cases h1
  | cell n =>
    have h1 : (match S[n]? with
      | some (.lst xs) => M.opt (inD S a xs) S
      | some (.dic _ kvs) => (match keyOf a with
        | some k => .ok ((valD kvs k).isSome) S
        | none => .stuck)
      | _ => .stuck : Out Bool) = .exc x S2 := h
    split at h1
    · rename_i xs _
      cases e : inD S a xs <;> rw [e] at h1 <;> cases h1
    · split at h1 <;> cases h1
    · cases h1
  | tup xs =>
    have h1 : M.opt (match vOf a, vsOf xs with | some u, some us => some (inV u us) | _, _ => none) S = .exc x S2 := h
    cases e1 : vOf a with
    | none => rw [e1] at h1; cases h1
    | some u =>
      cases e2 : vsOf xs with
      | none => rw [e1, e2] at h1; cases h1
      | some us => rw [e1, e2] at h1; cases h1
  | _ => cases h
theorem in_core {neg : Bool} {op : CmpOp} (hu : X.A.units + 65 < cLine)
    (o1 : OpR X (compareOp op) (fun x y H Q => ∃ c z, x = V.str ⟨#[c]⟩ ∧ y = V.str z ∧ Q (.bl (if neg then !decide (c ∈ z.cps.toList) else decide (c ∈ z.cps.toList))) H))
    (o2 : OpR X (compareOp op) (fun x y H Q => ∃ d ds, Dp X.K H x d ∧ Dp X.K H y (.list ds) ∧ SeqAt.shaped d = true ∧ SeqAt.shaped (.list ds) = true ∧ Q (.bl (if neg then !(ds.any fun z => PyData.eqv z d) else ds.any fun z => PyData.eqv z d)) H))
    (o3 : ∀ {pins : List (Addr × Obj)} {σ : L2.St} {H : Hp} {s : Shared} {a : Addr} {y : V} {u : Value} {o : Option V} {Q : Value → Shared → Prop}, Inv X pins σ H s → DGet H a y o → RelV y u → (∀ s', Inv X pins σ H s' → Q (.bool (if neg then !o.isSome else o.isSome)) s') →
      wpAny (model X.prog X.w) X.A (compareOp op u (.ref a)) Q X.xe s)
    (o4 : OpR X (compareOp op) (rIn X.K neg))
    (hB : X.K = B.K) : OpR X (compareOp op) (r2 B (fun a b => M.bind (isInD a b) fun k => M.pure (.bl (if neg then !k else k)))) := by
  intro pins s σ H x y v u Q I rx ry ⟨ρ, S, d1, d2, kx, hs, h1, h2, g⟩
  have g1 := Go.bindM g
  cases e : isInD d1 d2 S with
  | stuck => rw [e] at g1; exact g1.elim
  | exc x S2 => exact (isIn_noexc e).elim
  | ok k S2 =>
    rw [e] at g1
    obtain ⟨rfl, c⟩ := isIn_cases e
    have g2 : Go B ρ H (.ok (.bl (if neg then !k else k)) S2) (KV1 B Q) kx := Go.now hs g1
    have q : Q (.bl (if neg then !k else k)) H := nowV hs g2 (.bl _)
    rcases c with ⟨c, z, rfl, rfl, rfl⟩ | ⟨xs, rfl, e2⟩ | ⟨n, xs, rfl, e3, e2⟩ | ⟨n, lk, kvs, q', rfl, e3, e2, rfl⟩ | ⟨xs, u', us', rfl, e2, e3, rfl⟩
    · cases h1; cases h2
      exact o1 pins s σ H _ _ v u Q I rx ry ⟨c, z, rfl, rfl, q⟩
    · obtain ⟨p, qs, e4, e5, z1, z2, rfl⟩ := inD_some e2
      obtain ⟨a, vs, rfl, _, qa, rl⟩ := rep_lst h2
      exact o2 pins s σ H _ _ v u Q I rx ry ⟨p, qs, toP_dp hs _ _ _ _ e4 h1, .lst (SqL.of qa) (toPs_dp hs _ _ _ _ e5 rl), z1, z2, q⟩
    · obtain ⟨p, qs, e4, e5, z1, z2, rfl⟩ := inD_some e2
      cases h2 with
      | cell ha =>
        obtain ⟨vs, qa, rl⟩ := cell_lst (hs.at_ _ _ _ ha e3)
        exact o2 pins s σ H _ _ v u Q I rx ry ⟨p, qs, toP_dp hs _ _ _ _ e4 h1, .lst (SqL.of qa) (toPs_dp hs _ _ _ _ e5 rl), z1, z2, q⟩
    · cases h2 with
      | cell ha =>
        obtain ⟨o, dg, hv⟩ := dget_cell (hs.at_ _ _ _ ha e3) q'
        have ey := keyOf_rep e2 h1
        subst ey
        cases ry
        refine o3 I dg rx fun s' I' => ⟨.bl _, H, I', rfl, ?_⟩
        have eo : (valD kvs q').isSome = o.isSome := by
          rcases hv with ⟨z1, z2⟩ | ⟨d, v, z1, z2, _⟩ <;> rw [z1, z2] <;> rfl
        rw [← eo]
        exact q
    · obtain ⟨a, vs, rfl, _, qa, rl⟩ := rep_tup h2
      obtain ⟨rfl, f1⟩ := vOf_rep e2 h1
      obtain ⟨rfl, f2⟩ := vsOf_rep e3 rl
      exact o4 pins s σ H _ _ v u Q I rx ry ⟨a, vs, rfl, .inr (SqT.of qa), f1, f2, q⟩
theorem op_cmp_in (hu : X.A.units + 65 < cLine) (hB : X.K = B.K) : OpR X (compareOp .In) (r2 B (opCmp .isin)) := by
  refine in_core (neg := false) hu (fun pins s σ H x y v u Q I rx ry h => ?_) (fun pins s σ H x y v u Q I rx ry h => ?_) (fun I g r h => ?_) op_in_seq hB
  · exact op_in_sign pins s σ H x y v u Q I rx ry h
  · exact op_inD hu pins s σ H x y v u Q I rx ry h
  · exact d_in (by omega) I g r h
theorem op_cmp_notin (hu : X.A.units + 65 < cLine) (hB : X.K = B.K) : OpR X (compareOp .NotIn) (r2 B (opCmp .notin)) := by
  refine in_core (neg := true) hu (fun pins s σ H x y v u Q I rx ry h => ?_) (fun pins s σ H x y v u Q I rx ry h => ?_) (fun I g r h => ?_) op_notIn_seq hB
  · exact op_notIn_sign pins s σ H x y v u Q I rx ry h
  · exact op_notInD hu pins s σ H x y v u Q I rx ry h
  · exact d_notIn (by omega) I g r h
end Py
-- PyD4
namespace Py
open PySem PySem.Spec PyProof.Rows L2
/-! ### 9f. t[::-1] of a tuple -/
section
variable {prog : Program} {w : World} {A : Around} {E : Value → Shared → Prop} {s : Shared}
theorem adjust_rev (n : Nat) : Builtin.Slice.sliceAdjust none none (-1) (n : Int) = ((n : Int) - 1, -1) := rfl
theorem places_rev (n : Nat) : Builtin.Slice.slicePlaces ((n : Int) - 1) (-1) (-1) = n := by
  unfold Builtin.Slice.slicePlaces
  rw [if_neg (by decide)]
  by_cases h : (n : Int) - 1 > -1
  · rw [if_pos h]
    have : ((n : Int) - 1 - -1 - 1) / (- -1) + 1 = n := by
      rw [show ((n : Int) - 1 - -1 - 1) = (n : Int) - 1 by omega, show (- (-1 : Int)) = 1 by rfl, Int.ediv_one]
      omega
    rw [this]
    rfl
  · rw [if_neg h]
    have : n = 0 := by omega
    subst this
    rfl
theorem fm_congr {α β : Type} {f g : α → Option β} : ∀ {l : List α}, (∀ x ∈ l, f x = g x) → l.filterMap f = l.filterMap g
  | [], _ => rfl
  | a :: l, h => by
    rw [List.filterMap_cons, List.filterMap_cons, h a List.mem_cons_self, fm_congr fun x m => h x (List.mem_cons_of_mem _ m)]
theorem pick_rev (xs : Array Value) : ((List.range xs.size).filterMap fun (m : Nat) => xs[(((xs.size : Nat) : Int) - 1 + (m : Int) * -1).toNat]?).toArray = xs.toList.reverse.toArray := by
  congr 1
  have h1 : ∀ m ∈ List.range xs.size, xs[(((xs.size : Nat) : Int) - 1 + (m : Int) * -1).toNat]? = xs.toList.reverse[m]? := fun m hm => by
    have hm' : m < xs.size := List.mem_range.mp hm
    have e : (((xs.size : Nat) : Int) - 1 + (m : Int) * -1).toNat = xs.size - 1 - m := by omega
    rw [e, List.getElem?_reverse (by simpa using hm')]
    simp
  rw [fm_congr h1]
  have h2 : ∀ l : List Value, (List.range l.length).filterMap (fun m => l[m]?) = l := fun l => by
    apply List.ext_getElem?
    intro i
    have : (List.range l.length).filterMap (fun m => l[m]?) = l := by
      induction l with
      | nil => rfl
      | cons a t ih =>
        rw [List.length_cons, List.range_succ_eq_map, List.filterMap_cons]
        simp only [List.getElem?_cons_zero, List.filterMap_map, Function.comp_def, List.getElem?_cons_succ]
        rw [ih]
    rw [this]
  have h3 := h2 xs.toList.reverse
  rw [List.length_reverse, Array.length_toList] at h3
  exact h3
theorem sliceApplied_rev {sl : Addr} {vl vu vs : Value} {n : Nat} {Q : Int × Int × Nat → Shared → Prop} (hs : s.heap.IsSliceOf sl vl vu vs) (pl : IsPart vl none) (pu : IsPart vu none) (ps : IsPart vs (some (-1)))
    (h : Q ((n : Int) - 1, -1, n) s) : wpAny (model prog w) A (Builtin.Slice.sliceApplied (.ref sl) (pure (n : Int))) Q E s := by
  obtain ⟨os, hos, hcs, hds⟩ := id hs
  unfold Builtin.Slice.sliceApplied Builtin.Slice.sliceFields
  refine wpAny_bind (wpAny_bind (wpAny_field hos hds (x := vl) rfl (wpAny_bind (wpAny_field hos hds (x := vu) rfl (wpAny_bind (wpAny_field hos hds (x := vs) rfl (wpAny_pure ?_)))))))
  refine wpAny_bind (HT.slicePart_ ps ?_)
  show wpAny _ _ (if ((-1 : Int) == 0) = true then _ else _) _ _ s
  rw [if_neg (by decide)]
  refine wpAny_bind (HT.slicePart_ pl (wpAny_bind (HT.slicePart_ pu (wpAny_bind (wpAny_pure ?_)))))
  show wpAny _ _ (match Builtin.Slice.sliceAdjust none none (-1) (n : Int) with | (lo, hi) => pure (lo, (-1 : Int), Builtin.Slice.slicePlaces lo hi (-1))) _ _ s
  rw [adjust_rev n]
  show wpAny _ _ (pure ((n : Int) - 1, (-1 : Int), Builtin.Slice.slicePlaces ((n : Int) - 1) (-1) (-1))) _ _ s
  rw [places_rev]
  exact wpAny_pure h
theorem getItem_tuple_rev {t sl : Addr} {items : Array Value} {vl vu vs : Value} {Q : Value → Shared → Prop} (ht : IsTup s.heap t items) (hs : s.heap.IsSliceOf sl vl vu vs) (pl : IsPart vl none) (pu : IsPart vu none) (ps : IsPart vs (some (-1)))
    (h : Q (.ref s.heap.objs.size) { s with heap := s.heap.push { cls := .type "tuple", data := .seq items.toList.reverse.toArray } })
    (hsz : items.size ≤ sizeLine) : wpAny (model prog w) A (getItem (.ref t) (.ref sl)) Q E s := by
  have htake : sizeOk (.seq items.toList.reverse.toArray) := by
    show items.toList.reverse.toArray.size ≤ sizeLine
    rw [List.size_toArray, List.length_reverse, Array.length_toList]
    exact hsz
  obtain ⟨os, hos, hcs, hds⟩ := id hs
  have hTs : s.TypeIs (.ref sl) "slice" := ⟨os, hos, hcs⟩
  unfold getItem
  try with_reducible refine wpAny_holding ?_
  first | refine wpAny_bind (wpAny_pure ?_) | skip
  refine wpAny_bind (wpAny_sequenceKey ht.typeIs (by decide) ?_)
  refine wpAny_bind (wpAny_callSpecial?_slot (name := Str.ofString "__getitem__") ht.typeIs PyProof.Rows.slot_tuple_getitem
    (wpAny_call_entry PyProof.Rows.slot_tuple_getitem ht.typeIs entry_tuple_getitem ?_ (args_tuple_getitem _ _)))
  show wpAny _ _ (Builtin.Tuple.tupleItemsOf (.ref t) >>= _) _ _ s
  refine wpAny_bind (tupleItemsOf_ ht ?_)
  refine wpAny_bind (wpAny_typeOf hTs ?_)
  rw [if_pos (by decide)]
  refine wpAny_bind (sliceApplied_rev hs pl pu ps ?_)
  have hno : ¬ ((((items.size : Nat) : Int) - 1 == 0 && (-1 : Int) == 1 && items.size == items.size) = true) := by
    intro q
    rw [Bool.and_eq_true, Bool.and_eq_true] at q
    exact absurd q.1.2 (by decide)
  show wpAny _ _ (if (((items.size : Nat) : Int) - 1 == 0 && (-1 : Int) == 1 && items.size == items.size) = true then _ else _) _ _ s
  rw [if_neg hno, pick_rev]
  first
    | exact wpAny_bind (m := Builtin.Tuple.tupleExact _) (wpAny_newObj_type (wpAny_pure ⟨_, rfl, wpAny_pure h⟩) htake)
    | exact wpAny_bind (m := Builtin.Tuple.tupleExact _) (wpAny_newObj_type (wpAny_bind (wpAny_pure (wpAny_pure ⟨_, rfl, wpAny_pure h⟩))) htake)
    | exact wpAny_bind (wpAny_bind (m := Builtin.Tuple.tupleExact _) (wpAny_newObj_type (wpAny_pure (wpAny_pure ⟨_, rfl, wpAny_pure h⟩)) htake))
    | exact wpAny_bind (wpAny_bind (m := Builtin.Tuple.tupleExact _) (wpAny_newObj_type (wpAny_pure ⟨_, rfl, wpAny_pure h⟩) htake))
end
def tRevT (K : PySem.W.Frag) (te : TE) : TE := fun σ H Q => te σ H fun x H1 => ∃ a xs, x = .ref a ∧ SqT K H1 a xs ∧ ∀ p, H1 p = none → Q (.ref p) (upd H1 p (.tup xs.reverse))
def tRevA (K : PySem.W.Frag) (te : TE) : TE := fun σ H Q => te σ H fun x H1 => ∃ a xs, x = .ref a ∧ ((SqL K H1 a xs ∧ ∀ p, H1 p = none → Q (.ref p) (upd H1 p (.lst xs.reverse))) ∨ (SqT K H1 a xs ∧ ∀ p, H1 p = none → Q (.ref p) (upd H1 p (.tup xs.reverse))))
theorem pe_revA {e : PySem.Expr} {te : TE} {k : Nat} {p1 p2 p3 pos : Pos} (he : PE X e te) : PE X (.Subscript e (.Slice none none (some (.UnaryOp .USub (.Constant (.int 1) k p1) p2)) p3) pos) (tRevA X.K te) := by
  refine ⟨fun pins s σ H Q I h => ?_⟩
  refine Subscript_ (thn (he.run pins s σ H _ I h) fun v s1 ⟨x, H1, I1, r1, q1⟩ => ?_)
  obtain ⟨a, xs, ex, hx⟩ := q1
  subst ex
  cases r1
  have hst : PO X (some (.UnaryOp .USub (.Constant (.int 1) k p1) p2)) (tPart (tUn (rU fun i => .int (-i)) (tC (.int 1)))) := po_some (pe_un un_neg pe_int)
  refine wpAny_Slice (thn (po_none.run pins s1 σ H1 (fun o H2 => o = none ∧ H2 = H1) I1 ⟨rfl, rfl⟩) fun vl s2 ⟨l, H2, I2, pl, el, e2⟩ => ?_)
  subst el e2
  refine thn (po_none.run pins s2 σ H2 (fun o H3 => o = none ∧ H3 = H2) I2 ⟨rfl, rfl⟩) fun vu s3 ⟨u, H3, I3, pu, eu, e3⟩ => ?_
  subst eu e3
  refine thn (hst.run pins s3 σ H3 (fun o H4 => o = some (-1) ∧ H4 = H3) I3 ⟨1, rfl, -1, rfl, rfl, rfl⟩) fun vs s4 ⟨o, H4, I4, ps, eo, e4⟩ => ?_
  subst eo e4
  have I5 : Inv X pins σ H4 { s4 with heap := s4.heap.push { cls := .type "slice", data := .fields #[vl, vu, vs] } } := I4.kept (t' := s4.toks) fun b ob q => Heap.get?_push_of_some _ q
  show wpAny (model X.prog X.w) X.A (subscriptTail e (.Slice none none (some (.UnaryOp .USub (.Constant (.int 1) k p1) p2)) p3) (.ref a) (.ref s4.heap.objs.size)) (EP X pins σ Q) X.xe { s4 with heap := s4.heap.push { cls := .type "slice", data := .fields #[vl, vu, vs] } }
  rcases hx with ⟨hx, q⟩ | ⟨hx, q⟩
  · obtain ⟨its, r, ht, hz⟩ := I5.list hx
    have hlen := r.length
    refine tail_any (ops := [.ref a, .ref s4.heap.objs.size]) ht.isList.typeIs (PySem.slot_list_getitem.lookup) ?_ (by with_unfolding_all rfl)
    refine wpAny_getItem_list_slice ht.isList (Heap.IsSliceOf.new _ vl vu vs) pl pu ps (by decide) ?_ (by rw [List.size_toArray]; omega)
    rw [PySem.W.krv_pick]
    refine ⟨.ref _, _, I5.laid (t' := s4.toks) (o := .lst xs.reverse) (fun b ob q => Heap.get?_push_of_some _ q) (Nat.le_refl _) ?_, rfl, q _ (I5.hok.fresh (Nat.le_refl _))⟩
    exact ⟨by rw [List.length_reverse]; exact hz, _, 0, r.reverse, Heap.get?_push_size _ rfl⟩
  · obtain ⟨its, r, ht, hz⟩ := I5.tuple hx
    have hlen := r.length
    refine tail_any (ops := [.ref a, .ref s4.heap.objs.size]) ht.typeIs (PyProof.Rows.slot_tuple_getitem.lookup) ?_ (by with_unfolding_all rfl)
    refine getItem_tuple_rev ht (Heap.IsSliceOf.new _ vl vu vs) pl pu ps ?_ (by rw [List.size_toArray]; omega)
    refine ⟨.ref _, _, I5.laid (t' := s4.toks) (o := .tup xs.reverse) (fun b ob q => Heap.get?_push_of_some _ q) (Nat.le_refl _) ?_, rfl, q _ (I5.hok.fresh (Nat.le_refl _))⟩
    exact ⟨by rw [List.length_reverse]; exact hz, _, r.reverse, IsTup.new _ _⟩
/-! ### 9g. a[i], a[i:j], a[::-1] -/
theorem atI_rep {ds : List D} {vs : List V} {i : Int} {d : D} (r : RepL B ρ H ds vs) (h : atI ds i = some d) : ∃ v, atI vs i = some v ∧ Rep B ρ H d v := by
  unfold atI at h ⊢
  rw [← r.len]
  cases e : ixN ds.length i with
  | none => rw [e] at h; cases h
  | some j =>
    rw [e] at h
    exact r.get h
theorem op_ix_all (hu : X.A.units + 1 < cLine) : IxR X (r2 B opIx) := by
  intro value slice pins s σ H x y v u Q I rx ry ⟨ρ, S, d1, d2, kx, hs, h1, h2, g⟩ hsub
  cases d1 with
  | str z => cases d2 with
    | int i =>
      cases h1; cases h2
      have g1 : Go B ρ H ((if fits z.length then (match atI z.cps.toList i with
        | some c => M.pure (.str ⟨#[c]⟩)
        | none => M.fail) else M.fail : M D) S) (KV1 B Q) kx := g
      by_cases c : fits z.length = true
      · rw [if_pos c] at g1
        cases e : atI z.cps.toList i with
        | none => rw [e] at g1; exact g1.elim
        | some k =>
          rw [e] at g1
          exact ix_str value slice pins s σ H _ _ v u Q I rx ry ⟨z, i, k, rfl, rfl, fits_le c, e, nowV hs g1 (.str _)⟩ hsub
      · rw [if_neg c] at g1
        exact g1.elim
    | _ => exact g.elim
  | tup ds => cases d2 with
    | int i =>
      obtain ⟨a, vs, rfl, _, q, r⟩ := rep_tup h1
      cases h2
      obtain ⟨d, e, g1⟩ := go_opt (show Go B ρ H (M.opt (atI ds i) S) (KV1 B Q) kx from g)
      obtain ⟨w', e2, r2⟩ := atI_rep r e
      exact ix_tup value slice pins s σ H _ _ v u Q I rx ry ⟨a, vs, i, w', rfl, rfl, SqT.of q, e2, nowV hs g1 r2⟩ hsub
    | _ => exact g.elim
  | lst ds => cases d2 with
    | int i =>
      obtain ⟨a, vs, rfl, _, q, r⟩ := rep_lst h1
      cases h2
      obtain ⟨d, e, g1⟩ := go_opt (show Go B ρ H (M.opt (atI ds i) S) (KV1 B Q) kx from g)
      obtain ⟨w', e2, r2⟩ := atI_rep r e
      exact ix_list value slice pins s σ H _ _ v u Q I rx ry ⟨a, vs, i, w', rfl, rfl, SqL.of q, e2, nowV hs g1 r2⟩ hsub
    | _ => exact g.elim
  | scr ns => cases d2 with
    | int i =>
      cases h1 with
      | scr n q =>
        cases h2
        obtain ⟨d, e, g1⟩ := go_opt (show Go B ρ H (M.opt ((atI ns i).map .int) S) (KV1 B Q) kx from g)
        obtain ⟨k, e2, rfl⟩ := Option.map_eq_some_iff.mp e
        refine ix_list value slice pins s σ H _ _ v u Q I rx ry ⟨_, _, i, .int k, rfl, rfl, .inl (.inr ⟨_, q⟩), ?_, nowV hs g1 (.int _)⟩ hsub
        unfold atI at e2 ⊢
        rw [List.length_map]
        cases e3 : ixN ns.length i with
        | none => rw [e3] at e2; cases e2
        | some j =>
          rw [e3] at e2
          have e4 : ns[j]? = some k := e2
          show (ns.map V.int)[j]? = some (V.int k)
          rw [List.getElem?_map, e4] <;> rfl
    | _ => exact g.elim
  | cell n =>
    cases h1 with
    | cell ha =>
      obtain ⟨c, e, cr⟩ := hs.get ha
      have g1 : Go B ρ H (match S[n]? with
        | some (.lst xs) => (match d2 with
          | .int i => M.opt (atI xs i) S
          | _ => .stuck)
        | some (.dic _ kvs) => (match keyOf d2 with
          | some q => M.opt (valD kvs q) S
          | none => .stuck)
        | _ => .stuck) (KV1 B Q) kx := g
      rw [e] at g1
      cases c with
      | lst xs =>
        obtain ⟨vs, q, r⟩ := cell_lst cr
        cases d2 with
        | int i =>
          cases h2
          obtain ⟨d, e2, g2⟩ := go_opt (show Go B ρ H (M.opt (atI xs i) S) (KV1 B Q) kx from g1)
          obtain ⟨w', e3, r2⟩ := atI_rep r e2
          exact ix_list value slice pins s σ H _ _ v u Q I rx ry ⟨_, vs, i, w', rfl, rfl, SqL.of q, e3, nowV hs g2 r2⟩ hsub
        | _ => exact g1.elim
      | dic lk kvs =>
        have g2 : Go B ρ H (match keyOf d2 with
          | some q => M.opt (valD kvs q) S
          | none => .stuck) (KV1 B Q) kx := g1
        cases e2 : keyOf d2 with
        | none => rw [e2] at g2; exact g2.elim
        | some k =>
          rw [e2] at g2
          obtain ⟨d, e3, g3⟩ := go_opt (show Go B ρ H (M.opt (valD kvs k) S) (KV1 B Q) kx from g2)
          obtain ⟨o, dg, hv⟩ := dget_cell cr k
          rcases hv with ⟨z1, _⟩ | ⟨d', w', z1, z2, r2⟩
          · rw [z1] at e3; cases e3
          · rw [e3] at z1; cases z1
            subst z2
            have ey := keyOf_rep e2 h2
            subst ey
            obtain rfl : v = Value.ref _ := rx
            exact tail_any (dict_typeIs I dg) PySem.F.slot_dict_getitem.lookup (d_getItem hu I dg ry fun w2 s3 I3 r3 => ⟨w', H, I3, r3, nowV hs g3 r2⟩) hsub
      | ins _ _ => exact g1.elim
  | _ => exact g.elim
theorem cut_eq {ds : List D} {vs : List V} (r : RepL B ρ H ds vs) (lo hi : Option Int) : RepL B ρ H (cutD ds lo hi) (cutV vs lo hi) := by
  unfold cutD cutV
  rw [← r.len]
  exact (r.drop _).take _
/-- the items of a list (plain, script's, mutable) as they stand -/
theorem seq_lst {d : D} {v : V} {xs : List D} {S2 : Store} (hs : Sim B ρ S H) (r : Rep B ρ H d v) (h : seqOf d S = .ok xs S2) (hn : ∀ ds, d ≠ .tup ds) : S2 = S ∧ ∃ a vs, v = .ref a ∧ (H a = some (.lst vs) ∨ ∃ o, H a = some (.frz o (.lst vs))) ∧ RepL B ρ H xs vs := by
  cases r with
  | lst n q rl =>
    cases h
    exact ⟨rfl, _, _, rfl, .inl q, rl⟩
  | @scr _ _ ns n q =>
    cases h
    refine ⟨rfl, _, _, rfl, .inr ⟨_, q⟩, ?_⟩
    clear q
    induction ns with
    | nil => exact .nil
    | cons i t ih => exact .cons (.int i) (ih fun ds e => by cases e)
  | @cell k _ ha =>
    obtain ⟨c, e, cr⟩ := hs.get ha
    have h1 : (match S[k]? with
      | some (.lst xs) => .ok xs S
      | _ => .stuck : Out (List D)) = .ok xs S2 := h
    rw [e] at h1
    cases c with
    | lst ys =>
      cases h1
      obtain ⟨vs, q, rl⟩ := cell_lst cr
      exact ⟨rfl, _, _, rfl, .inl q, rl⟩
    | dic _ _ => cases h1
    | ins _ _ => cases h1
  | tup _ _ _ => exact absurd rfl (hn _)
  | _ => cases h
theorem seq_noexc {d : D} {x : Exn} {S2 : Store} (h : seqOf d S = .exc x S2) : False := by
  cases d with
  | cell k =>
    have h1 : (match S[k]? with
      | some (.lst xs) => .ok xs S
      | _ => .stuck : Out (List D)) = .exc x S2 := h
    cases e : S[k]? with
    | none => rw [e] at h1; cases h1
    | some c => rw [e] at h1; cases c <;> cases h1
  | _ => cases h
theorem SqL.of2 {K : PySem.W.Frag} {a : Addr} {vs : List V} (h : H a = some (.lst vs) ∨ ∃ o, H a = some (.frz o (.lst vs))) : SqL K H a vs := by
  rcases h with h | ⟨o, h⟩
  · exact .inl (.inl h)
  · exact .inl (.inr ⟨o, h⟩)
def rSlG (B : Bs) : V → Option Int → Option Int → Hp → VK → Prop := fun x lo hi H Q => ∃ ρ S d kx, Sim B ρ S H ∧ Rep B ρ H d x ∧ Go B ρ H (opSl d lo hi S) (KV1 B Q) kx
theorem cut_whole {α : Type} {xs : List α} {lo hi : Option Int} (h : HT.sIx xs.length 0 lo = 0 ∧ HT.sIx xs.length xs.length hi = xs.length) : cutD xs lo hi = xs := by
  unfold cutD
  rw [h.1, h.2, List.drop_zero, Nat.sub_zero, List.take_length]
theorem opSl_seq {d : D} (hd : ∀ z, d ≠ .str z) (ht : ∀ z, d ≠ .tup z) (lo hi : Option Int) : opSl d lo hi = M.bind (seqOf d) fun xs => M.pure (.lst (cutD xs lo hi)) := by
  cases d with
  | str z => exact absurd rfl (hd z)
  | tup z => exact absurd rfl (ht z)
  | _ => rfl
theorem sl_all : SlR X (rSlG B) := by
  intro pins s σ H x v vl vu lo hi sl Q I rx hsl pl pu ⟨ρ, S, d, kx, hs, r, g⟩
  by_cases hd : ∃ z, d = .str z
  · obtain ⟨z, rfl⟩ := hd
    cases r
    have g1 : Go B ρ H ((if fits z.length then M.pure (.str ⟨(cutD z.cps.toList lo hi).toArray⟩) else M.fail : M D) S) (KV1 B Q) kx := g
    by_cases c : fits z.length = true
    · rw [if_pos c] at g1
      refine sl_str pins s σ H _ v vl vu lo hi sl Q I rx hsl pl pu ⟨z, rfl, fits_le c, ?_⟩
      refine nowV hs g1 ?_
      have e : (⟨(cutD z.cps.toList lo hi).toArray⟩ : Str) = cutS z lo hi := by
        unfold cutD cutS
        rw [Array.length_toList]
        rfl
      rw [e]
      exact .str _
    · rw [if_neg c] at g1
      exact g1.elim
  · by_cases ht : ∃ z, d = .tup z
    · obtain ⟨ds, rfl⟩ := ht
      obtain ⟨a, vs, rfl, _, q, rl⟩ := rep_tup r
      have g1 : Go B ρ H (.ok (.tup (cutD ds lo hi)) S) (KV1 B Q) kx := g
      refine sl_tupA pins s σ H _ v vl vu lo hi sl Q I rx hsl pl pu ⟨a, vs, rfl, SqT.of q, fun h => ?_, fun h => newV hs g1 (newTup hs (cut_eq rl lo hi))⟩
      refine nowV hs g1 ?_
      rw [← rl.len] at h
      rw [cut_whole h]
      exact r
    · rw [opSl_seq (fun z e => hd ⟨z, e⟩) (fun z e => ht ⟨z, e⟩)] at g
      have g1 := Go.bindM g
      cases e : seqOf d S with
      | stuck => rw [e] at g1; exact g1.elim
      | exc x S2 => exact (seq_noexc e).elim
      | ok xs S2 =>
        rw [e] at g1
        obtain ⟨rfl, a, vs, rfl, q, rl⟩ := seq_lst hs r e fun z e => ht ⟨z, e⟩
        have g2 : Go B ρ H (.ok (.lst (cutD xs lo hi)) S2) (KV1 B Q) kx := Go.now hs g1
        exact sl_list pins s σ H _ v vl vu lo hi sl Q I rx hsl pl pu ⟨a, vs, rfl, SqL.of2 q, newV hs g2 (newLst hs (cut_eq rl lo hi))⟩
end Py
-- PyE
namespace Py
open PySem PySem.Spec PyProof.Rows L2
/-! ### 10. the ground -/
structure Gx where
  P : Program
  w : World
  B : Bs
  mg : Str → Option Value
  base : Heap
def tyB : List String := ["NoneType", "bool", "int", "str", "tuple", "list", "dict"]
def clB : List String := ["bool", "int", "str", "tuple", "list", "dict"]
/-- names of the built-in things that a text of ours may use: none of them is the module's -/
def bnames : List Str := ["len", "abs", "int", "max", "min", "sum", "all", "any", "sorted", "list", "tuple", "dict", "range", "isinstance", "bool", "str", "enumerate", "zip", "set", "reversed"]
def clV (K : PySem.W.Frag) : Cl → Value
  | .b n => .type n
  | .c n => .ref (He.ga K n)
def clVV (K : PySem.W.Frag) : Cl → V
  | .b n => .ty n
  | .c n => .ref (He.ga K n)
/-- what of an own class isinstance wants -/
structure ClsI (K : PySem.W.Frag) (C : Addr) : Prop where
  cls : Cls K C
  ha : PySem.W.findIn K (.ref C) "__class__" = some (some (.builtin "object.__class__"))
  hn : PySem.W.specialIn K (.builtin "object.__class__") "__get__" = some (some (.builtin "getset_descriptor.__get__"))
  htk : PySem.W.takesIn K (.builtin "object.__class__") = some true
  hm : PySem.W.mroIn K C (.type "object") = some true
structure GOk (g : Gx) : Prop where
  fr : ∀ x ∈ bnames, g.mg x = none
  cl : ∀ c ∈ g.B.cls, g.mg c = some (.ref (He.ga g.B.K c)) ∧ ClsI g.B.K (He.ga g.B.K c)
  kit : ∀ t ∈ tyB.map Cl.b ++ g.B.cls.map Cl.c, ∀ c ∈ clB.map Cl.b ++ g.B.cls.map Cl.c, PySem.W.kitOne g.B.K (clV g.B.K t) (clV g.B.K c) = some (isC t c)
/-- where one stands -/
structure Ctx (g : Gx) (k : Nat) (X : Cx) (W : WX) : Prop where
  prog : X.prog = g.P
  w : X.w = g.w
  K : X.K = g.B.K
  mg : X.mg = g.mg
  base : X.base = g.base
  calm : X.calm = true
  nd : X.N.Nodup
  room : Room k X.A
  tk : Takes X W
/-- a def's promise by its meaning -/
def spOf (B : Bs) (f : Sem) (n : Nat) : Sp := fun vs H Q E => ∃ ρ S ds, Sim B ρ S H ∧ RepL B ρ H ds vs ∧ vs.length = n ∧
  Go B ρ H (f ds S) (KV1 B Q) (fun x ρ' _ H' => ∀ cls dd, RepX B ρ' H' x cls dd → E cls dd H')
/-- the module's def nm means f -/
def FnSem (g : Gx) (k : Nat) (nm : Str) (n : Nat) (f : Sem) : Prop := ∃ (fd : FuncData) (ps : List Str), ps.length = n ∧ g.mg nm = some (.ref (He.ga g.B.K nm)) ∧ PySem.W.keepIn g.B.K (.ref (He.ga g.B.K nm)) = true ∧ Binds g.B.K fd ps [] ∧
  FnOk g.P g.w g.B.K g.mg g.base (L2.CX g.P g.w) k (He.ga g.B.K nm) fd ps (spOf g.B f ps.length)
/-- .. called with keywords: n places, then the names ks; gl tells the order -/
def KwSem (g : Gx) (k : Nat) (nm : Str) (f : Sem) (n : Nat) (ks : List Str) (gl : List Nat) : Prop := ∃ (fd : FuncData) (ps : List Str), g.mg nm = some (.ref (He.ga g.B.K nm)) ∧ PySem.W.keepIn g.B.K (.ref (He.ga g.B.K nm)) = true ∧
  (∀ (s : Shared) (us ws : List Value), g.B.K.In s.heap → us.length = n → ws.length = ks.length → BindsTo s fd ⟨us, ks.zip ws⟩ (ps.zip (gl.map fun i => (us ++ ws).getD i .none))) ∧ gl.length = ps.length ∧
  FnOk g.P g.w g.B.K g.mg g.base (L2.CX g.P g.w) k (He.ga g.B.K nm) fd ps (spOf g.B f ps.length)
/-- the built-in function or type nm means f -/
def PrimSem (g : Gx) (nm : Str) (f : Sem) : Prop := nm ∈ bnames ∧ ∀ (k : Nat) (X : Cx) (W : WX), Ctx g k X W → ∃ (v : Value) (r : List V → Hp → VK → Prop), bootBuiltins nm = some v ∧ ((∃ id, v = .builtin id) ∨ ∃ T, v = .type T) ∧ CallR X v r ∧
  ∀ (ρ : Rh) (S : Store) (H : Hp) (ds : List D) (vs : List V) (Q : VK) (kx : Exn → Rh → Store → Hp → Prop), Sim g.B ρ S H → RepL g.B ρ H ds vs → Go g.B ρ H (f ds S) (KV1 g.B Q) kx → r vs H Q
/-- the method nm of built-in objects of the type T means f -/
def MethSem (g : Gx) (nm : Str) (T : String) (f : D → Sem) : Prop := (T = "list" ∨ T = "dict" ∨ T = "str") ∧ ∀ (k : Nat) (X : Cx) (W : WX), Ctx g k X W → ∃ (id : String) (r : V → List V → Hp → VK → Prop), PlainAttrs T ∧ Slot T nm id ∧ typeOf (.builtin id) = pure (.type "method_descriptor") ∧ MtR X id r ∧
  ∀ (ρ : Rh) (S : Store) (H : Hp) (d : D) (v : V) (ds : List D) (vs : List V) (Q : VK) (kx : Exn → Rh → Store → Hp → Prop), Sim g.B ρ S H → Rep g.B ρ H d v → RepL g.B ρ H ds vs → Go g.B ρ H (f d ds S) (KV1 g.B Q) kx → r v vs H Q
/-- the class c is made by __init__, which means f: n places behind self -/
def MkSem (g : Gx) (k : Nat) (c : Str) (n : Nat) (f : Sem) : Prop := ∃ (fa : Addr) (fd : FuncData) (ps : List Str), c ∈ g.B.cls ∧ ps.length = n + 1 ∧ g.mg c = some (.ref (He.ga g.B.K c)) ∧ Mk g.B.K (He.ga g.B.K c) fa ∧ Binds g.B.K fd ps [] ∧
  ∃ j, j + 1 ≤ k ∧ FnOk g.P g.w g.B.K g.mg g.base (L2.CX g.P g.w) j fa fd ps (spOf g.B f ps.length)
/-- .. with keywords -/
def MkkSem (g : Gx) (k : Nat) (c : Str) (f : Sem) (n : Nat) (ks : List Str) (gl : List Nat) : Prop := ∃ (fa : Addr) (fd : FuncData) (ps : List Str), c ∈ g.B.cls ∧ g.mg c = some (.ref (He.ga g.B.K c)) ∧ Mk g.B.K (He.ga g.B.K c) fa ∧
  (∀ (s : Shared) (us ws : List Value), g.B.K.In s.heap → us.length = n + 1 → ws.length = ks.length → BindsTo s fd ⟨us, ks.zip ws⟩ (ps.zip (us.headD .none :: gl.map fun i => (us.tail ++ ws).getD i .none))) ∧ gl.length + 1 = ps.length ∧
  ∃ j, j + 1 ≤ k ∧ FnOk g.P g.w g.B.K g.mg g.base (L2.CX g.P g.w) j fa fd ps (spOf g.B f ps.length)
/-- the class c's own __eq__ means f -/
def EqSem (g : Gx) (k : Nat) (c : Str) (f : Sem) : Prop := ∃ (fa : Addr) (fd : FuncData) (ps : List Str), c ∈ g.B.cls ∧ ps.length = 2 ∧ PySem.W.findIn g.B.K (.ref (He.ga g.B.K c)) "__eq__" = some (some (.ref fa)) ∧ PySem.W.isFn g.B.K (.ref fa) = true ∧ Binds g.B.K fd ps [] ∧
  (∀ t ∈ tyB.map Cl.b ++ g.B.cls.map Cl.c, PySem.W.notFirst g.B.K (He.ga g.B.K c) (clV g.B.K t) = true) ∧ FnOk g.P g.w g.B.K g.mg g.base (L2.CX g.P g.w) k fa fd ps (spOf g.B f ps.length)
def clOk (g : Gx) : Cl → Prop
  | .b n => n ∈ clB
  | .c n => n ∈ g.B.cls
/-- what an expression leans on -/
def OkE (g : Gx) (k : Nat) : E → Prop
  | .glob x d => ∃ u v, g.mg x = some u ∧ RelV v u ∧ ∀ ρ H, Rep g.B ρ H d v
  | .cons e es => OkE g k e ∧ OkE g k es
  | .tup es => OkE g k es
  | .lst _ es => OkE g k es
  | .bin _ a b => OkE g k a ∧ OkE g k b
  | .cmp _ a b => OkE g k a ∧ OkE g k b
  | .chain _ _ a b c => OkE g k a ∧ OkE g k b ∧ OkE g k c
  | .neg a => OkE g k a
  | .not a => OkE g k a
  | .and a b => OkE g k a ∧ OkE g k b
  | .or a b => OkE g k a ∧ OkE g k b
  | .ite t a b => OkE g k t ∧ OkE g k a ∧ OkE g k b
  | .ix a i => OkE g k a ∧ OkE g k i
  | .sl a lo hi => OkE g k a ∧ OkE g k lo ∧ OkE g k hi
  | .rev a => OkE g k a
  | .call nm n f es => FnSem g k nm n f ∧ OkE g k es
  | .kall nm f n ks gl es kes => KwSem g k nm f n ks gl ∧ OkE g k es ∧ OkE g k kes
  | .prim nm f es => PrimSem g nm f ∧ OkE g k es
  | .meth nm T f o es => MethSem g nm T f ∧ OkE g k o ∧ OkE g k es
  | .isi a cs _ => (∀ c ∈ cs, clOk g c) ∧ OkE g k a
  | .attr o f => (∀ c ∈ g.B.cls, NoAttr g.B.K (He.ga g.B.K c) f) ∧ OkE g k o
  | .lc _ _ it c e => OkE g k it ∧ OkE g k c ∧ OkE g k e
  | .lcd _ _ _ c e => OkE g k c ∧ OkE g k e
  | .rng1 a => OkE g k a
  | .rng2 a b => OkE g k a ∧ OkE g k b
  | .enum a => OkE g k a
  | .zip2 a b => OkE g k a ∧ OkE g k b
  | .walk _ a => OkE g k a
  | .mk c _ n f es => MkSem g k c n f ∧ OkE g k es
  | .mkk c _ f n ks gl es kes => MkkSem g k c f n ks gl ∧ OkE g k es ∧ OkE g k kes
  | .eqm c f a b => EqSem g k c f ∧ OkE g k a ∧ OkE g k b
  | .dis es => OkE g k es
  | .pr x e es => OkE g k x ∧ OkE g k e ∧ OkE g k es
  | .addl _ a b => OkE g k a ∧ OkE g k b
  | _ => True
end Py
-- PyF
namespace Py
open PySem PySem.Spec PyProof.Rows L2
variable {g : Gx} {k : Nat} {N : List Str}
/-! ### 11. targets -/
theorem PG.imp {e : PySem.Expr} {t t' : TG} (h : PG X e t) (hi : ∀ v σ H Q, t' v σ H Q → t v σ H Q) : PG X e t' := ⟨fun pins s σ H v u Q I r q => h.run pins s σ H v u Q I r (hi v σ H Q q)⟩
theorem PGs.imp {e : List PySem.Expr} {t t' : TGs} (h : PGs X e t) (hi : ∀ v σ H Q, t' v σ H Q → t v σ H Q) : PGs X e t' := ⟨fun pins s σ H v u Q I r q => h.run pins s σ H v u Q I r (hi v σ H Q q)⟩
theorem PG.or {e : PySem.Expr} {t t' : TG} (h : PG X e t) (h' : PG X e t') : PG X e (fun v σ H Q => t v σ H Q ∨ t' v σ H Q) :=
  ⟨fun pins s σ H v u Q I r q => q.elim (h.run pins s σ H v u Q I r) (h'.run pins s σ H v u Q I r)⟩
def setAll {α : Type} (σ : List (Option α)) (is : List Nat) (vs : List α) : List (Option α) := (is.zip vs).foldl (fun s p => s.set p.1 (some p.2)) σ
theorem setAll_cons {α : Type} (σ : List (Option α)) (i : Nat) (is : List Nat) (v : α) (vs : List α) : setAll σ (i :: is) (v :: vs) = setAll (σ.set i (some v)) is vs := rfl
def gNames (is : List Nat) : TGs := fun vs σ H Q => vs.length = is.length ∧ Q (setAll σ is vs) H
theorem vis_of {sc : Scope} {x : Str} (h : visB sc x = true) : Vis sc x := by
  unfold visB at h
  cases e : sc.names.lookup x with
  | none => rw [e] at h; cases h
  | some kd =>
    rw [e] at h
    cases kd with
    | «local» => exact .inl e
    | cell => exact .inr (.inl e)
    | free => exact .inr (.inr e)
    | _ => cases h
theorem loc_of {sc : Scope} {x : Str} (h : locB sc x = true) : Loc sc x := by
  unfold locB at h
  cases e : sc.names.lookup x with
  | none => rw [e] at h; cases h
  | some kd =>
    rw [e] at h
    cases kd with
    | «local» => exact .inl e
    | cell => exact .inr e
    | _ => cases h
theorem band {a b : Bool} (h : (a && b) = true) : a = true ∧ b = true := Bool.and_eq_true_iff.mp h
theorem odd_of {x : Str} (h : (!oddB x) = true) : (x == ("__debug__" : Str)) = false ∧ (x == ("__classdict__" : Str)) = false ∧ x ≠ "__name__" := by
  unfold oddB at h
  cases e1 : (x == ("__debug__" : Str)) with
  | true => rw [e1] at h; cases h
  | false => cases e2 : (x == ("__classdict__" : Str)) with
    | true => rw [e1, e2] at h; cases h
    | false => cases e3 : (x == ("__name__" : Str)) with
      | true => rw [e1, e2, e3] at h; cases h
      | false => exact ⟨rfl, rfl, fun z => by rw [z] at e3; simp at e3⟩
theorem gl_of {X : Cx} {x : Str} (h : nameOk X.env.scope x = true) : Gl X x ∧ (x == ("__debug__" : Str)) = false ∧ x ≠ "__name__" := by
  obtain ⟨h1, h2⟩ := band h
  obtain ⟨o1, o2, o3⟩ := odd_of h2
  refine ⟨?_, o1, o3⟩
  unfold glB at h1
  show X.env.scope.names.lookup x = some .globalImplicit
  cases e : X.env.scope.names.lookup x with
  | none => rw [e] at h1; cases h1
  | some kd =>
    rw [e] at h1
    cases kd with
    | globalImplicit => rfl
    | _ => cases h1
/-- what a store wants of the name -/
def Own (X : Cx) (x : Str) : Prop := X.fn x = true ∨ X.env.scope.names.lookup x = some .local
theorem pg_nm {i : Nat} {x : Str} {pos : Pos} (nd : X.N.Nodup) (h : tgOk X.N X.env.scope i x = true) (ow : Own X x) : PG X (.Name x pos) (gName i) := by
  obtain ⟨h1, h2⟩ := band h
  obtain ⟨h2, h3⟩ := band h2
  exact pg_name nd (of_decide_eq_true h1) (loc_of h2) ow
def ownE (X : Cx) : PySem.Expr → Prop
  | .Name x _ => Own X x
  | .Tuple es _ _ => ∀ e ∈ es, ∀ x p, e = .Name x p → Own X x
  | _ => True
theorem each_map (x : Str) (pos : Pos) (es : List PySem.Expr) (env : PySem.Env) : assignEach (.Name x pos :: es) env = (false, assign (.Name x pos) env) :: assignEach es env := by rfl
theorem pgs_names (nd : X.N.Nodup) : ∀ (is : List Nat) (es : List PySem.Expr), tgsOk X.N X.env.scope is es = true → (∀ e ∈ es, ∀ x p, e = .Name x p → Own X x) →
    PGs X es (gNames is) ∧ (assignEach es X.env).length = is.length ∧ (assignEach es X.env).findIdx? (·.1) = none
  | [], [], _, _ => ⟨PGs.imp pgs_nil fun v σ H Q ⟨h1, h2⟩ => by
      have : v = [] := List.eq_nil_of_length_eq_zero h1
      subst this
      exact ⟨rfl, h2⟩, rfl, rfl⟩
  | i :: is, .Name x pos :: es, h, ow => by
    obtain ⟨h1, h2⟩ := band (show (tgOk X.N X.env.scope i x && tgsOk X.N X.env.scope is es) = true from h)
    obtain ⟨ih, l, f⟩ := pgs_names nd is es h2 fun e m => ow e (List.mem_cons_of_mem _ m)
    refine ⟨PGs.imp (pgs_cons (pg_nm nd h1 (ow _ List.mem_cons_self x pos rfl)) ih) fun v σ H Q ⟨h1, h2⟩ => ?_, by rw [each_map, List.length_cons, l, List.length_cons], by rw [each_map, List.findIdx?_cons, f] <;> rfl⟩
    cases v with
    | nil => cases h1
    | cons a t => exact ⟨a, t, rfl, by simpa using h1, h2⟩
  | [], _ :: _, h, _ => by cases h
  | _ :: _, [], h, _ => by cases h
  | i :: is, .BoolOp _ _ _ :: es, h, _ => by cases h
  | i :: is, .NamedExpr _ _ _ :: es, h, _ => by cases h
  | i :: is, .BinOp _ _ _ _ :: es, h, _ => by cases h
  | i :: is, .UnaryOp _ _ _ :: es, h, _ => by cases h
  | i :: is, .Lambda _ _ _ _ :: es, h, _ => by cases h
  | i :: is, .IfExp _ _ _ _ :: es, h, _ => by cases h
  | i :: is, .Dict _ _ _ :: es, h, _ => by cases h
  | i :: is, .Set _ _ _ :: es, h, _ => by cases h
  | i :: is, .ListComp _ _ _ _ :: es, h, _ => by cases h
  | i :: is, .SetComp _ _ _ _ :: es, h, _ => by cases h
  | i :: is, .DictComp _ _ _ _ _ :: es, h, _ => by cases h
  | i :: is, .GeneratorExp _ _ _ _ :: es, h, _ => by cases h
  | i :: is, .Await _ _ :: es, h, _ => by cases h
  | i :: is, .Yield _ _ :: es, h, _ => by cases h
  | i :: is, .YieldFrom _ _ :: es, h, _ => by cases h
  | i :: is, .Compare _ _ _ _ :: es, h, _ => by cases h
  | i :: is, .Call _ _ _ _ :: es, h, _ => by cases h
  | i :: is, .FormattedValue _ _ _ _ :: es, h, _ => by cases h
  | i :: is, .JoinedStr _ _ :: es, h, _ => by cases h
  | i :: is, .Constant _ _ _ :: es, h, _ => by cases h
  | i :: is, .Attribute _ _ _ :: es, h, _ => by cases h
  | i :: is, .Subscript _ _ _ :: es, h, _ => by cases h
  | i :: is, .Starred _ _ :: es, h, _ => by cases h
  | i :: is, .List _ _ :: es, h, _ => by cases h
  | i :: is, .Tuple _ _ _ :: es, h, _ => by cases h
  | i :: is, .Slice _ _ _ _ :: es, h, _ => by cases h
def gT (B : Bs) : Tg → TG
  | .nm i => gName i
  | .tp is => fun v σ H Q => (∃ a xs, v = .ref a ∧ SqT B.K H a xs ∧ xs.length = is.length ∧ Q (setAll σ is xs) H) ∨ (∃ a xs, v = .ref a ∧ SqL B.K H a xs ∧ xs.length = is.length ∧ Q (setAll σ is xs) H)
theorem pg_tg {W : WX} (c : Ctx g k X W) {tg : Tg} {e : PySem.Expr} (h : chkT X.N X.env.scope tg e = true) (ow : ownE X e) : PG X e (gT g.B tg) := by
  cases tg with
  | nm i => cases e with
    | Name x p => exact pg_nm c.nd h ow
    | _ => cases h
  | tp is => cases e with
    | Tuple es n p =>
      obtain ⟨hg, l, f⟩ := pgs_names c.nd is es h ow
      refine PG.imp (PG.or (pg_tup c.calm hg l f) (pg_lst c.calm hg l f)) fun v σ H Q q => ?_
      rcases q with ⟨a, xs, rfl, h1, h2, h3⟩ | ⟨a, xs, rfl, h1, h2, h3⟩
      · exact .inl ⟨a, xs, rfl, by rw [c.K]; exact h1, h2, h2, h3⟩
      · exact .inr ⟨a, xs, rfl, by rw [c.K]; exact h1, h2, h2, h3⟩
    | _ => cases h
theorem RepS.setAll : ∀ {is : List Nat} {ds : List D} {vs : List V} {env : Env} {σ : L2.St}, RepS B ρ H env σ → RepL B ρ H ds vs → RepS B ρ H (Py.setAll env is ds) (Py.setAll σ is vs)
  | [], _, _, _, _, h, _ => h
  | i :: is, [], [], _, _, h, _ => h
  | i :: is, d :: ds, v :: vs, env, σ, h, .cons r rl => by
    rw [setAll_cons, setAll_cons]
    exact RepS.setAll (h.set r i) rl
theorem RepS.none {env : Env} {σ : L2.St} (h : RepS B ρ H env σ) (i : Nat) : RepS B ρ H (env.set i none) (σ.set i none) := by
  refine ⟨by simp [h.1], fun j d q => ?_⟩
  by_cases e : j = i
  · subst e
    have l : j < env.length := by
      have := (List.getElem?_eq_some_iff.mp q).1
      simpa using this
    rw [List.getElem?_set_self l] at q
    cases q
  · rw [List.getElem?_set_ne (Ne.symm e)] at q
    rw [List.getElem?_set_ne (Ne.symm e)]
    exact h.2 j d q
theorem RepS.wipe {env : Env} {σ : L2.St} (h : RepS B ρ H env σ) : ∀ tg : Tg, RepS B ρ H (wipeE env tg) (wipe σ tg.slots)
  | .nm i => h.none i
  | .tp is => by
    show RepS B ρ H (is.foldr (fun i en => en.set i Option.none) env) (L2.wipe σ is)
    induction is with
    | nil => exact h
    | cons i is ih => exact RepS.none ih i
/-- storing a value into a target -/
theorem bindT_ok {tg : Tg} {d : D} {v : V} {env : Env} {σ : L2.St} {α : Type} {f : Env → M α} {kk : α → Rh → Store → Hp → Prop} {kx : Exn → Rh → Store → Hp → Prop} {Q : L2.St → Hp → Prop} (s : Sim B ρ S H) (hs : RepS B ρ H env σ) (r : Rep B ρ H d v)
    (gg : Go B ρ H (M.bind (bindT tg d env) f S) kk kx) (hk : ∀ env' σ', RepS B ρ H env' σ' → (∃ xs, σ' = Py.setAll σ tg.slots xs) → Go B ρ H (f env' S) kk kx → Q σ' H) : gT B tg v σ H Q := by
  cases tg with
  | nm i => exact hk _ _ (hs.set r i) ⟨[v], rfl⟩ (Go.now s (Go.bindM gg))
  | tp is =>
    have g1 := Go.bindM (m := M.bind (seqOf d) fun xs => if xs.length = is.length then M.pure ((is.zip xs).foldl (fun en p => en.set p.1 (some p.2)) env) else M.fail) gg
    have g2 := Go.bindM g1
    cases e : seqOf d S with
    | stuck => rw [e] at g2; exact g2.elim
    | exc x S2 => exact (seq_noexc e).elim
    | ok xs S2 =>
      rw [e] at g2
      by_cases ht : ∃ ds, d = .tup ds
      · obtain ⟨ds, rfl⟩ := ht
        obtain ⟨rfl, rfl⟩ : ds = xs ∧ S = S2 := by cases e; exact ⟨rfl, rfl⟩
        obtain ⟨a, vs, rfl, _, q, rl⟩ := rep_tup r
        have g3 := Go.now s g2
        by_cases cl : ds.length = is.length
        · rw [if_pos cl] at g3
          exact .inl ⟨a, vs, rfl, SqT.of q, by rw [← rl.len]; exact cl, hk _ _ (hs.setAll rl) ⟨vs, rfl⟩ (Go.now s g3)⟩
        · rw [if_neg cl] at g3
          exact g3.elim
      · obtain ⟨rfl, a, vs, rfl, q, rl⟩ := seq_lst s r e fun z ez => ht ⟨z, ez⟩
        have g3 := Go.now s g2
        by_cases cl : xs.length = is.length
        · rw [if_pos cl] at g3
          exact .inr ⟨a, vs, rfl, SqL.of2 q, by rw [← rl.len]; exact cl, hk _ _ (hs.setAll rl) ⟨vs, rfl⟩ (Go.now s g3)⟩
        · rw [if_neg cl] at g3
          exact g3.elim
theorem wipe_at : ∀ (is : List Nat) (σ : L2.St) (j : Nat), (wipe σ is)[j]? = if j ∈ is ∧ j < σ.length then some none else σ[j]?
  | [], σ, j => by simp [wipe]
  | i :: is, σ, j => by
    show ((wipe σ is).set i none)[j]? = _
    by_cases e : j = i
    · subst e
      by_cases l : j < σ.length
      · rw [List.getElem?_set_self (by rw [wipe_length]; exact l), if_pos ⟨List.mem_cons_self, l⟩]
      · rw [if_neg fun z => l z.2, List.getElem?_eq_none (by rw [List.length_set, wipe_length]; omega), List.getElem?_eq_none (by omega)]
    · rw [List.getElem?_set_ne (Ne.symm e), wipe_at is σ j]
      have : (j ∈ i :: is) ↔ j ∈ is := by simp [e]
      simp only [this]
theorem setAll_at : ∀ (is : List Nat) (vs : List V) (σ : L2.St) (j : Nat), j ∉ is → (Py.setAll σ is vs)[j]? = σ[j]?
  | [], _, _, _, _ => rfl
  | i :: is, [], _, _, _ => rfl
  | i :: is, v :: vs, σ, j, h => by
    rw [setAll_cons, setAll_at is vs _ j fun m => h (List.mem_cons_of_mem _ m), List.getElem?_set_ne fun e => h (by rw [← e]; exact List.mem_cons_self)]
theorem setAll_length : ∀ (is : List Nat) (vs : List V) (σ : L2.St), (Py.setAll σ is vs).length = σ.length
  | [], _, _ => rfl
  | i :: is, [], _ => rfl
  | i :: is, v :: vs, σ => by rw [setAll_cons, setAll_length is vs, List.length_set]
theorem wipe_setAll (σ : L2.St) (is : List Nat) (vs : List V) : wipe (Py.setAll (wipe σ is) is vs) is = wipe σ is := by
  apply List.ext_getElem?
  intro j
  rw [wipe_at, wipe_at, setAll_length, wipe_length]
  by_cases m : j ∈ is
  · by_cases l : j < σ.length
    · rw [if_pos ⟨m, l⟩, if_pos ⟨m, l⟩]
    · rw [if_neg fun z => l z.2, if_neg fun z => l z.2, List.getElem?_eq_none (by rw [setAll_length, wipe_length]; omega), List.getElem?_eq_none (by omega)]
  · rw [if_neg fun z => m z.1, if_neg fun z => m z.1, setAll_at is vs _ j m, wipe_at, if_neg fun z => m z.1]
end Py
-- PyG
namespace Py
open PySem PySem.Spec PyProof.Rows L2
variable {g : Gx} {k : Nat} {N : List Str}
/-! ### 12. what is walked -/
structure ItOk (B : Bs) (ρ0 : Rh) (H0 : Hp) (J : It) (src : Src) : Prop where
  go : ∀ (ρ : Rh) (S : Store) (H : Hp), Mv ρ0 H0 ρ H → Fz H0 H → Sim B ρ S H → src.holds S → ∀ (i : Nat) (d : D), src.items[i]? = some d →
    J.go i H ∧ ∀ x H', J.yld i H x H' → ∃ o p, (H' = H ∨ (H p = none ∧ H' = upd H p (.tup o))) ∧ Rep B ρ H' d x
  stop : ∀ (ρ : Rh) (S : Store) (H : Hp), Mv ρ0 H0 ρ H → Fz H0 H → Sim B ρ S H → src.holds S → J.stop src.items.length H
def tI (B : Bs) (W : WX) (c : E) : TI := fun σ H R => ∃ ρ env S, RepS B ρ H env σ ∧ Sim B ρ S H ∧ Go B ρ H (evS c env S) (fun src ρ' S' H' => ∀ J, ItOk B ρ' H' J src → R J H') (KX B W σ)
/-- a list, a tuple, a text -/
def iAny (K : PySem.W.Frag) (te : TE) : TI := fun σ H R => te σ H fun x H1 => (∃ a, x = .ref a ∧ (∃ xs, SqL K H1 a xs) ∧ R (Itl K a) H1) ∨ (∃ a, x = .ref a ∧ (∃ xs, SqT K H1 a xs) ∧ R (Itt K a) H1) ∨ ∃ z, x = .str z ∧ R (Its z) H1
theorem pi_any {tg l : PySem.Expr} {tl : TE} (hl : PE X l tl) : PI X tg l (iAny X.K tl) := by
  refine ⟨fun pins s σ H R I h => ?_⟩
  refine thn (hl.run pins s σ H _ I h) fun v s1 ⟨x, H1, I1, r1, q1⟩ => ?_
  rcases q1 with ⟨a, e, ⟨xs, hq⟩, q⟩ | ⟨a, e, ⟨xs, hq⟩, q⟩ | ⟨x, ex, q⟩
  · subst e
    cases r1
    obtain ⟨its, rv, p, hz⟩ := I1.list hq
    refine wpAny_pyIter_list p.isList ?_
    refine ⟨s1.heap.objs.size, [s1.heap.objs.size], _, _, H1, rfl, I1.kept (t' := s1.toks) fun b o e => Heap.get?_push_of_some _ e, turn_list a _, ⟨_, Heap.get?_push_size _ rfl, rfl, rfl⟩, fun b hb => ?_, q⟩
    have e : b = s1.heap.objs.size := by simpa using hb
    subst e
    exact I1.fpOk (Nat.le_refl _) (I1.hok.fresh (Nat.le_refl _))
  · subst e
    cases r1
    obtain ⟨its, rv, p, hz⟩ := I1.tuple hq
    refine wpAny_pyIter_tuple (show s1.heap.IsTuple a its.toArray from p) ?_
    refine ⟨s1.heap.objs.size, [s1.heap.objs.size], _, _, H1, rfl, I1.kept (t' := s1.toks) fun b o e => Heap.get?_push_of_some _ e, turn_tuple a _, ⟨_, Heap.get?_push_size _ rfl, rfl, rfl⟩, fun b hb => ?_, q⟩
    have e : b = s1.heap.objs.size := by simpa using hb
    subst e
    exact I1.fpOk (Nat.le_refl _) (I1.hok.fresh (Nat.le_refl _))
  · subst ex
    obtain ⟨t, rfl⟩ := r1
    cases ha : x.cps.all (· < 128)
    · exact wpAny_pyIter_wide ha (pi_one (tk := s1.toks) I1 _ (turn_str _ x t "str_iterator" (.inr rfl)) ⟨_, Heap.get?_push_size _ rfl, rfl, rfl⟩ q)
    · exact wpAny_pyIter_ascii ha (pi_one (tk := s1.toks) I1 _ (turn_str _ x t "str_ascii_iterator" (.inl rfl)) ⟨_, Heap.get?_push_size _ rfl, rfl, rfl⟩ q)
theorem it_list {K : PySem.W.Frag} {a : Addr} {src : Src} {vs : List V} (n : a ∉ ρ) (q : H a = some (.lst vs) ∨ ∃ o, H a = some (.frz o (.lst vs))) (rl : RepL B ρ H src.items vs) : ItOk B ρ H (Itl K a) src := by
  have at_ : ∀ (ρ1 : Rh) (H1 : Hp), Mv ρ H ρ1 H1 → SqL K H1 a vs := fun ρ1 H1 m => SqL.of2 (q.elim (fun e => .inl (m.key _ _ e n).2) fun ⟨o, e⟩ => .inr ⟨o, (m.key _ _ e n).2⟩)
  refine ⟨fun ρ1 S1 H1 m fz s1 _ i d hd => ?_, fun ρ1 S1 H1 m fz s1 _ => ⟨vs, at_ ρ1 H1 m, by rw [rl.len]; exact Nat.le_refl _⟩⟩
  obtain ⟨v, e, r⟩ := rl.get hd
  refine ⟨⟨vs, v, at_ ρ1 H1 m, e⟩, fun x H' ⟨e1, e2⟩ => ⟨[], 0, .inl e1, ?_⟩⟩
  subst e1
  rw [e2 vs (at_ ρ1 _ m)] at e
  cases e
  exact r.move m
theorem it_cell {K : PySem.W.Frag} {a : Addr} {src : Src} {n : Nat} (hc : (n, src.items) ∈ src.cells) (ha : ρ.at n = some a) : ItOk B ρ H (Itl K a) src := by
  refine ⟨fun ρ1 S1 H1 m fz s1 hc1 i d hd => ?_, fun ρ1 S1 H1 m fz s1 hc1 => ?_⟩
  · obtain ⟨vs, q, rl⟩ := cell_lst (s1.at_ n a _ (m.at_ _ _ ha) (hc1 (n, src.items) hc))
    obtain ⟨v, e, r⟩ := rl.get hd
    refine ⟨⟨vs, v, SqL.of q, e⟩, fun x H' ⟨e1, e2⟩ => ⟨[], 0, .inl e1, ?_⟩⟩
    subst e1
    rw [e2 vs (SqL.of q)] at e
    cases e
    exact r
  · obtain ⟨vs, q, rl⟩ := cell_lst (s1.at_ n a _ (m.at_ _ _ ha) (hc1 (n, src.items) hc))
    exact ⟨vs, SqL.of q, by rw [rl.len]; exact Nat.le_refl _⟩
theorem it_tup {K : PySem.W.Frag} {a : Addr} {src : Src} {vs : List V} (n : a ∉ ρ) (q : H a = some (.tup vs)) (rl : RepL B ρ H src.items vs) : ItOk B ρ H (Itt K a) src := by
  have at_ : ∀ (ρ1 : Rh) (H1 : Hp), Mv ρ H ρ1 H1 → SqT K H1 a vs := fun ρ1 H1 m => SqT.of (m.key _ _ q n).2
  refine ⟨fun ρ1 S1 H1 m fz s1 _ i d hd => ?_, fun ρ1 S1 H1 m fz s1 _ => ⟨vs, at_ ρ1 H1 m, by rw [rl.len]; exact Nat.le_refl _⟩⟩
  obtain ⟨v, e, r⟩ := rl.get hd
  refine ⟨⟨vs, v, at_ ρ1 H1 m, e⟩, fun x H' ⟨e1, e2⟩ => ⟨[], 0, .inl e1, ?_⟩⟩
  subst e1
  rw [e2 vs (at_ ρ1 _ m)] at e
  cases e
  exact r.move m
theorem it_str {z : Str} : ItOk B ρ H (Its z) ⟨z.cps.toList.map fun c => .str ⟨#[c]⟩, []⟩ := by
  refine ⟨fun ρ1 S1 H1 m fz s1 _ i d hd => ?_, fun ρ1 S1 H1 m fz s1 _ => ?_⟩
  · have hd' : (z.cps.toList.map fun c => D.str ⟨#[c]⟩)[i]? = some d := hd
    rw [List.getElem?_map] at hd'
    obtain ⟨c, e, rfl⟩ := Option.map_eq_some_iff.mp hd'
    have l : i < z.cps.size := by
      have := (List.getElem?_eq_some_iff.mp e).1
      simpa using this
    refine ⟨l, fun x H' ⟨e1, c', e2, e3⟩ => ⟨[], 0, .inl e1, ?_⟩⟩
    subst e1
    have : z.cps.toList[i]? = z.cps[i]? := by simp
    rw [this, e2] at e
    cases e
    subst e3
    exact .str _
  · show z.cps.size ≤ (z.cps.toList.map fun c => D.str ⟨#[c]⟩).length
    simp
theorem it_rng {lo : Int} {n : Nat} : ItOk B ρ H (Itr lo n) ⟨((List.range n).map fun i => lo + (i : Nat)).map .int, []⟩ := by
  refine ⟨fun ρ1 S1 H1 m fz s1 _ i d hd => ?_, fun ρ1 S1 H1 m fz s1 _ => ?_⟩
  · have hd' : (((List.range n).map fun i => lo + (i : Nat)).map D.int)[i]? = some d := hd
    have l : i < n := by
      have := (List.getElem?_eq_some_iff.mp hd').1
      simpa using this
    rw [List.getElem?_map, List.getElem?_map, List.getElem?_range l] at hd'
    have : D.int (lo + (i : Nat)) = d := Option.some.inj hd'
    subst this
    refine ⟨l, fun x H' ⟨e1, e2⟩ => ⟨[], 0, .inl e1, ?_⟩⟩
    subst e1
    subst e2
    exact .int _
  · show n ≤ (((List.range n).map fun i => lo + (i : Nat)).map D.int).length
    simp
theorem paired_at {α β : Type} {R : α → β → Prop} : ∀ {xs : List α} {ys : List β} {i : Nat} {x : α}, Paired R xs ys → xs[i]? = some x → ∃ y, ys[i]? = some y ∧ R x y
  | _, _, _, _, .nil, e => by cases e
  | _, _, 0, x, .cons r _, e => by
    have e := Option.some.inj e
    subst e
    exact ⟨_, rfl, r⟩
  | _, _, i + 1, x, .cons _ t, e => paired_at (i := i) t e
/-- the keys of a dict that is locked -/
theorem it_keys {a : Addr} {od : Obj} {kvs : List (Key × D)} {kws : List (Key × V)} (q : H a = some (.frz od (.dK kws))) (kr : KRep B ρ H kvs kws) : ItOk B ρ H (Itk a od kws) (keysS kvs) := by
  have ln : (keysS kvs).items.length = kws.length := by rw [← kr.length]; simp [keysS]
  refine ⟨fun ρ1 S1 H1 m fz s1 _ i d hd => ?_, fun ρ1 S1 H1 m fz s1 _ => ⟨fz _ _ _ q, Nat.le_of_eq ln.symm⟩⟩
  have l : i < kws.length := by
    rw [← ln]
    exact (List.getElem?_eq_some_iff.mp hd).1
  refine ⟨⟨fz _ _ _ q, l⟩, fun x H' ⟨e1, k, v, e2, e3⟩ => ⟨[], 0, .inl e1, ?_⟩⟩
  subst e1
  subst e3
  have hd : (kvs.map fun kv => keyD kv.1)[i]? = some d := hd
  rw [List.getElem?_map] at hd
  obtain ⟨p, e4, rfl⟩ := Option.map_eq_some_iff.mp hd
  have e5 : p.1 = k := by
    obtain ⟨y, e6, z⟩ := paired_at kr e4
    rw [e2] at e6
    cases e6
    exact z.1
  rw [e5]
  cases k with
  | inl i => exact .int i
  | inr x => exact .str x
theorem RepL.ints (ns : List Int) : RepL B ρ H (ns.map .int) (ns.map V.int) := by
  induction ns with
  | nil => exact .nil
  | cons i t ih => exact .cons (.int i) ih
theorem pi_val {W : WX} {c : E} {tg e : PySem.Expr} (hv : ∀ env, evS c env = M.bind (ev c env) srcOf) (cx : Ctx g k X W) (h : PE X e (tE g.B W c)) : PI X tg e (tI g.B W c) := by
  refine PI.imp (pi_any h) fun σ H R ⟨ρ, env, S, hs, s, gg⟩ => ?_
  rw [hv] at gg
  refine subE hs s gg fun d v ρ1 S1 H1 e1 hs1 s1 r g1 => ?_
  cases r with
  | str z => exact .inr (.inr ⟨z, rfl, Go.now s1 g1 _ it_str⟩)
  | tup n q rl => exact .inr (.inl ⟨_, rfl, ⟨_, SqT.of q⟩, Go.now s1 g1 _ (it_tup n q rl)⟩)
  | lst n q rl => exact .inl ⟨_, rfl, ⟨_, SqL.of q⟩, Go.now s1 g1 _ (it_list n (.inl q) rl)⟩
  | @scr a o ns n q => exact .inl ⟨_, rfl, ⟨_, SqL.of2 (.inr ⟨o, q⟩)⟩, Go.now s1 g1 _ (it_list (src := ⟨ns.map .int, []⟩) n (.inr ⟨o, q⟩) (RepL.ints ns))⟩
  | @cell n a ha =>
    have g2 : Go g.B ρ1 H1 (match S1[n]? with
      | some (.lst xs) => .ok ⟨xs, [(n, xs)]⟩ S1
      | _ => .stuck : Out Src) (fun src ρ' S' H' => ∀ J, ItOk g.B ρ' H' J src → R J H') (KX g.B W σ) := g1
    obtain ⟨cv, e, cr⟩ := s1.get ha
    rw [e] at g2
    cases cv with
    | lst xs =>
      obtain ⟨vs, q, rl⟩ := cell_lst cr
      exact .inl ⟨a, rfl, ⟨_, SqL.of q⟩, Go.now s1 g2 _ (it_cell (src := ⟨_, _⟩) List.mem_cons_self ha)⟩
    | dic _ _ => exact g2.elim
    | ins _ _ => exact g2.elim
  | _ => exact g1.elim
end Py
-- PyH
namespace Py
open PySem PySem.Spec PyProof.Rows L2
variable {g : Gx} {k : Nat} {N : List Str} {ρ2 : Rh} {H2 : Hp}
/-! ### 13. comprehensions -/
theorem Mid.notin {p : Addr} (a : Mid ρ H p ρ1 H1) (np : H p = none) : ∀ x o, H x = some o → x ∉ ρ → x ∉ ρ1 := fun x o q n m => by
  rcases m with m | m
  · rw [a.ex.new x (.inl m) n] at q; cases q
  · rw [a.z] at m
    rcases List.mem_cons.mp m with m | m
    · subst m; rw [np] at q; cases q
    · exact n (.inr m)
theorem Mid.mv {p : Addr} (a : Mid ρ H p ρ1 H1) (np : H p = none) : Mv ρ H ρ1 H1 :=
  ⟨fun x o q n => ⟨a.notin np x o q n, a.ex.keep x o q n⟩, fun n x q => by
    obtain ⟨t, et⟩ := a.ex.pre
    have q' : ρ.c[n]? = some x := q
    show ρ1.show.c[n]? = some x
    rw [et, List.getElem?_append_left (List.getElem?_eq_some_iff.mp q').1]
    exact q'⟩
def W0 : WX := fun _ _ _ _ => False
theorem still_cases (s : Src) (S : Store) : (still s S = .ok () S ∧ s.holds S) ∨ still s S = .stuck := by
  by_cases c : s.holds S
  · exact .inl ⟨if_pos c, c⟩
  · exact .inr (if_neg c)
theorem still_bind {α : Type} {s : Src} {f : Unit → M α} {a : α} (h : M.bind (still s) f S = .ok a S') : s.holds S ∧ f () S = .ok a S' := by
  obtain ⟨u, S1, e, h1⟩ := M.bind_ok h
  rcases still_cases s S with ⟨q, c⟩ | q
  · rw [q] at e
    cases e
    exact ⟨c, h1⟩
  · rw [q] at e
    cases e
theorem nox_ok {α : Type} {m : M α} {a : α} (h : M.nox m S = .ok a S') : m S = .ok a S' := by
  unfold M.nox at h
  cases e : m S with
  | ok u S2 => rw [e] at h; exact h
  | exc x S2 => rw [e] at h; cases h
  | stuck => rw [e] at h; cases h
theorem nox_exc {α : Type} {m : M α} {x : Exn} (h : M.nox m S = .exc x S') : False := by
  unfold M.nox at h
  cases e : m S with
  | ok u S2 => rw [e] at h; cases h
  | exc x S2 => rw [e] at h; cases h
  | stuck => rw [e] at h; cases h
theorem still_exc {s : Src} {x : Exn} (h : still s S = .exc x S') : False := by
  rcases still_cases s S with ⟨q, c⟩ | q <;> rw [q] at h <;> cases h
theorem turnsW_noexc {s : Src} {f : D → M (Option D)} {x : Exn} : ∀ {ds : List D} {S S' : Store}, turnsW s f ds S = .exc x S' → False
  | [], S, S', h => by
    rcases M.bind_exc (show M.bind (still s) (fun _ => M.pure []) S = .exc x S' from h) with h | ⟨_, _, _, h⟩
    · exact still_exc h
    · exact M.pure_exc h
  | d :: ds, S, S', h => by
    rcases M.bind_exc (show M.bind (still s) (fun _ => M.bind (M.nox (f d)) fun o => M.bind (turnsW s f ds) fun r => M.pure (o.toList ++ r)) S = .exc x S' from h) with h | ⟨_, _, _, h⟩
    · exact still_exc h
    · rcases M.bind_exc h with h | ⟨_, _, _, h⟩
      · exact nox_exc h
      · rcases M.bind_exc h with h | ⟨_, _, _, h⟩
        · exact turnsW_noexc h
        · exact M.pure_exc h
/-- one turn, by its parts -/
noncomputable def lcF (tg : Tg) (c e : E) (env : Env) (d : D) : M (Option D) := M.bind (bindT tg d (wipeE env tg)) fun en => M.bind (tst c en) fun kk => if kk then M.bind (ev e en) fun r => M.pure (some r) else M.pure none
/-- the turns of a comprehension: the new list at D is hidden through them -/
theorem lc_turns {src : Src} {J : It} {tg : Tg} {c e : E} {rs : List Py.D} {D : Addr} {S2 : Store} {Qf : VK} (ij : ItOk B ρ H J src) (s1 : Sim B ρ S H) (hs1 : RepS B ρ H env σ) (nD : H D = none) (run0 : turnsW src (lcF tg c e env) src.items S = .ok rs S2) (fl0 : fits rs.length = true)
    (fin : ∀ ρ' H' acc, Mid ρ H D ρ' H' → Sim B ρ' S2 H' → H' D = some (.lst acc) → RepL B ρ' H' rs acc → Qf (.ref D) H') :
    ∃ W : Nat → Nat → Hp → Prop, (∃ m, W 0 m (upd H D (.lst []))) ∧ ∀ i m H, W i m H →
      (J.stop i H ∧ Qf (.ref D) H) ∨ (J.go i H ∧ ∃ Nx : Hp → Prop, (∀ H', Nx H' → ∃ m', m' < m ∧ W (i + 1) m' H') ∧ ∀ x H', J.yld i H x H' → gT B tg x (wipe σ tg.slots) H' fun σ2 H2 => wipe σ2 tg.slots = wipe σ tg.slots ∧ tT B W0 c σ2 H2 fun b H3 =>
        if b = true then tE B W0 e σ2 H3 fun y H4 => ∃ acc, H4 D = some (.lst acc) ∧ acc.length < sizeLine ∧ Nx (upd H4 D (.lst (acc ++ [y]))) else Nx H3) := by
  have nDρ : D ∉ ρ := s1.fresh nD
  refine ⟨fun i mm H' => mm = src.items.length - i ∧ i ≤ src.items.length ∧ ∃ ρ' S' dn acc, Mid ρ H D ρ' H' ∧ Sim B ρ' S' H' ∧ H' D = some (.lst acc) ∧ RepL B ρ' H' dn acc ∧
      ∃ r, turnsW src (lcF tg c e env) (src.items.drop i) S' = .ok r S2 ∧ dn ++ r = rs, ?_, ?_⟩
  · exact ⟨src.items.length, by simp, Nat.zero_le _, ρ.hide D, S, [], [], Mid.start s1 _ nD, s1.hide _ nD, upd_same, .nil, rs, by rw [List.drop_zero]; exact run0, rfl⟩
  · rintro i mm H' ⟨rfl, hi, ρ', S', dn, acc, mid, s', hD, rd, rr, run, eq⟩
    have mv := mid.mv nD
    have fz : Fz H H' := mid.ex.frz
    by_cases lt : i < src.items.length
    · right
      have hdrop : src.items.drop i = src.items[i] :: src.items.drop (i + 1) := List.drop_eq_getElem_cons lt
      rw [hdrop] at run
      obtain ⟨q0, run⟩ := still_bind (show M.bind (still src) (fun _ => M.bind (M.nox (lcF tg c e env src.items[i])) fun o => M.bind (turnsW src (lcF tg c e env) (src.items.drop (i + 1))) fun r => M.pure (o.toList ++ r)) S' = .ok rr S2 from run)
      obtain ⟨o, S3, run1, run2⟩ := M.bind_ok run
      obtain ⟨r, S4, run3, run4⟩ := M.bind_ok run2
      have run1 := nox_ok run1
      obtain ⟨rfl, rfl⟩ := M.pure_ok run4
      have hget : src.items[i]? = some src.items[i] := by simp [lt]
      obtain ⟨jg, jy⟩ := ij.go ρ' S' H' mv fz s' q0 i _ hget
      refine ⟨jg, fun H'' => ∃ ρ3 dn3 acc3, Mid ρ H D ρ3 H'' ∧ Sim B ρ3 S3 H'' ∧ H'' D = some (.lst acc3) ∧ RepL B ρ3 H'' dn3 acc3 ∧ dn3 = dn ++ o.toList, ?_, ?_⟩
      · rintro H'' ⟨ρ3, dn3, acc3, mid3, s3, hD3, rd3, rfl⟩
        exact ⟨src.items.length - (i + 1), by omega, rfl, lt, ρ3, S3, _, acc3, mid3, s3, hD3, rd3, r, run3, by rw [List.append_assoc]; exact eq⟩
      · intro x Hy hy
        obtain ⟨ob, p, hh, rx⟩ := jy x Hy hy
        -- the heap behind the iterator's step
        obtain ⟨ext, sy, hDy⟩ : Ext ρ' H' ρ' Hy ∧ Sim B ρ' S' Hy ∧ Hy D = some (.lst acc) := by
          rcases hh with rfl | ⟨np, rfl⟩
          · exact ⟨.refl, s', hD⟩
          · exact ⟨Ext.alloc s' _ np, s'.alloc _ np, by rw [upd_ne (ne_of_none hD np)]; exact hD⟩
        have midy := mid.go ext nD
        have hsy : RepS B ρ' Hy (wipeE env tg) (wipe σ tg.slots) := by
          have : RepS B ρ' Hy env σ := ⟨hs1.1, fun j d q => let ⟨v, a, b⟩ := hs1.2 j d q; ⟨v, a, (b.move mv).mono ext⟩⟩
          exact this.wipe tg
        have go0 : Go B ρ' Hy (lcF tg c e env src.items[i] S') (fun o' _ S5 _ => o' = o ∧ S5 = S3) (KX B W0 (wipe σ tg.slots)) := by
          rw [run1]
          exact fun _ _ _ _ => ⟨rfl, rfl⟩
        refine bindT_ok (tg := tg) sy hsy rx go0 fun en σ2 hs2 ⟨xs, ex⟩ go1 => ?_
        refine ⟨by rw [ex]; exact wipe_setAll σ tg.slots xs, ?_⟩
        have go1' : Go B ρ' Hy (M.bind (tst c en) (fun kk => if kk then M.bind (ev e en) fun r => M.pure (some r) else M.pure none) S') (fun o' _ S5 _ => o' = o ∧ S5 = S3) (KX B W0 σ2) := go1
        refine subT hs2 sy go1' fun b ρ4 S5 H4 e4 hs4 s4 go2 => ?_
        have hz : D ∈ ρ'.z := by rw [mid.z]; exact List.mem_cons_self
        cases b with
        | true =>
          rw [if_pos rfl]
          rw [if_pos rfl] at go2
          refine subE hs4 s4 go2 fun y v ρ5 S6 H5 e5 hs5 s5 ry go3 => ?_
          obtain ⟨rfl, rfl⟩ := Go.now s5 go3
          have e45 := e4.trans e5
          have hD5 : H5 D = some (.lst acc) := by rw [e45.same D hz]; exact hDy
          have fl : (dn ++ (some y).toList).length ≤ sizeLine := by
            have := fits_le fl0
            rw [← eq] at this
            simp at this ⊢
            omega
          refine ⟨acc, hD5, ?_, ρ5, _, acc ++ [v], (midy.go e45 nD).write _ nD nDρ, s5.hwrite _ ?_, upd_same, ?_, rfl⟩
          · have := rd.len
            simp at fl
            omega
          · rw [(midy.go e45 nD).z]; exact List.mem_cons_self
          · have rd5 : RepL B ρ5 H5 dn acc := (rd.mono ext).mono e45
            have hz5 : D ∈ ρ5.z := by rw [(midy.go e45 nD).z]; exact List.mem_cons_self
            exact (RepL.append rd5 (.cons ry .nil)).move (Mv.hwrite _ hz5)
        | false =>
          rw [if_neg Bool.false_ne_true]
          rw [if_neg Bool.false_ne_true] at go2
          obtain ⟨rfl, rfl⟩ := Go.now s4 go2
          exact ⟨ρ4, _, acc, midy.go e4 nD, s4, by rw [e4.same D hz]; exact hDy, (rd.mono ext).mono e4, by simp⟩
    · left
      have e0 : i = src.items.length := by omega
      subst e0
      rw [List.drop_length] at run
      obtain ⟨q0, run⟩ := still_bind (show M.bind (still src) (fun _ => M.pure []) S' = .ok rr S2 from run)
      obtain ⟨rfl, rfl⟩ := M.pure_ok run
      rw [List.append_nil] at eq
      subst eq
      exact ⟨ij.stop ρ' _ H' mv fz s' q0, fin ρ' H' acc mid s' hD rd⟩
/-- a list that was hidden, as what it is from now on -/
theorem lc_end {m : Bool} {rs : List Py.D} {acc : List V} {D : Addr} {Q : VK} {kx : Exn → Rh → Store → Hp → Prop} (mid : Mid ρ H D ρ' H') (s' : Sim B ρ' S' H') (hD : H' D = some (.lst acc)) (rd : RepL B ρ' H' rs acc) (nD : H D = none) (nDρ : D ∉ ρ) (fin : Go B ρ H (mkL m rs S') (KV1 B Q) kx) : Q (.ref D) H' := by
  have ss := s'.show
  have rdS : RepL B ρ'.show H' rs acc := rd.move Mv.show
  have dn' : D ∉ ρ'.show := fun mm => by
    rcases mm with mm | mm
    · exact s'.apart mm (by rw [mid.z]; exact List.mem_cons_self)
    · have : ρ'.show.z = ρ.z := by show ρ'.z.tail = ρ.z; rw [mid.z] <;> rfl
      rw [this] at mm
      exact nDρ (.inr mm)
  cases m with
  | false => exact fin ρ'.show H' mid.ex ss _ (.lst dn' hD rdS)
  | true =>
    refine fin (ρ'.show.more D) H' ⟨?_, ?_, ?_, mid.ex.keep, mid.ex.same, mid.ex.frz⟩ (s'.reveal mid.z (.lst hD rd)) _ (.cell ?_)
    · obtain ⟨t, et⟩ := mid.ex.pre
      exact ⟨t ++ [D], by show ρ'.show.c ++ [D] = _; rw [et, List.append_assoc]⟩
    · exact mid.ex.hid
    · intro a mm n
      rcases mm with mm | mm
      · rcases List.mem_append.mp mm with mm | mm
        · exact mid.ex.new a (.inl mm) n
        · have : a = D := by simpa using mm
          subst this
          exact nD
      · exact mid.ex.new a (.inr mm) n
    · have := more_at ρ'.show D
      rw [show ρ'.show.c.length = _ from s'.len] at this
      exact this
theorem lc_ok {W : WX} {m : Bool} {tg : Tg} {it c e : E} {Q : VK} (h : tE B W (.lc m tg it c e) σ H Q) : tLc (tI B W it) (gT B tg) (tT B W0 c) (tE B W0 e) tg.slots σ H Q := by
  obtain ⟨ρ, env, S, hs, s0, gg⟩ := h
  have gg1 : Go B ρ H (M.bind (evS it env) (fun s => M.bind (turnsW s (lcF tg c e env) s.items) fun rs => if fits rs.length then mkL m rs else M.fail) S) (KV1 B Q) (KX B W σ) := gg
  refine ⟨ρ, env, S, hs, s0, (Go.bindM gg1).imp (fun src ρ1 S1 H1 e1 s1 g1 J ij D nD => ?_) fun _ _ _ _ _ _ q => q⟩
  have g2 := Go.bindM g1
  cases e2 : turnsW src (lcF tg c e env) src.items S1 with
  | stuck => rw [e2] at g2; exact g2.elim
  | exc x S2 => exact (turnsW_noexc e2).elim
  | ok rs S2 =>
    have g3 : Go B ρ1 H1 (M.bind (turnsW src (lcF tg c e env) src.items) (fun rs => if fits rs.length then mkL m rs else M.fail) S1) (KV1 B Q) (KX B W σ) := g1
    rw [M.bind_of e2] at g3
    by_cases cf : fits rs.length = true
    · rw [if_pos cf] at g3
      exact lc_turns ij s1 (hs.mono e1) nD e2 cf fun ρ' H' acc mid s' hD rd => lc_end mid s' hD rd nD (s1.fresh nD) g3
    · rw [if_neg cf] at g3
      exact g3.elim
end Py
-- PyI
namespace Py
open PySem PySem.Spec PyProof.Rows L2
variable {g : Gx} {k : Nat} {N : List Str}
/-! ### 14. the syntax's small facts -/
theorem star_cons {e : PySem.Expr} {es : List PySem.Expr} {env : PySem.Env} (h : notStar e = true) : starEach (e :: es) env = (false, eval e env) :: starEach es env := by
  cases e <;> first | rfl | cases h
theorem star_any {env : PySem.Env} {pos : Pos} : ∀ {es : List PySem.Expr}, es.all notStar = true → (backTo pos (starEach es env)).any (·.1) = false
  | [], _ => rfl
  | e :: es, h => by
    rw [List.all_cons] at h
    obtain ⟨h1, h2⟩ := band h
    rw [star_cons h1]
    show (false || (backTo pos (starEach es env)).any (·.1)) = false
    rw [star_any h2] <;> rfl
theorem star_few {env : PySem.Env} {pos : Pos} : ∀ {es : List PySem.Expr}, es.all notStar = true → (backTo pos (starEach es env)).all (fun x => !x.1) = true
  | [], _ => rfl
  | e :: es, h => by
    rw [List.all_cons] at h
    obtain ⟨h1, h2⟩ := band h
    rw [star_cons h1]
    show (true && (backTo pos (starEach es env)).all (fun x => !x.1)) = true
    rw [star_few h2] <;> rfl
theorem kw_names {env : PySem.Env} {pos : Pos} : ∀ {kws : List Keyword} {ks : List Str}, kws.map (·.arg) = ks.map some →
    (backToKw pos (keywordEach kws env)).all (·.1.isSome) = true ∧ (backToKw pos (keywordEach kws env)).filterMap (·.1) = ks ∧ (backToKw pos (keywordEach kws env)).any (·.1.isNone) = false
  | [], [], _ => ⟨rfl, rfl, rfl⟩
  | [], _ :: _, h => by cases h
  | _ :: _, [], h => by cases h
  | ⟨a, e, p⟩ :: kws, y :: ks, h => by
    rw [List.map_cons, List.map_cons] at h
    obtain ⟨h1, h2⟩ := List.cons.inj h
    have h1 : a = some y := h1
    subst h1
    obtain ⟨i1, i2, i3⟩ := kw_names (env := env) (pos := pos) h2
    refine ⟨?_, ?_, ?_⟩
    · show (true && (backToKw pos (keywordEach kws env)).all (·.1.isSome)) = true
      rw [i1] <;> rfl
    · show y :: (backToKw pos (keywordEach kws env)).filterMap (·.1) = y :: ks
      rw [i2]
    · show (false || (backToKw pos (keywordEach kws env)).any (·.1.isNone)) = false
      rw [i3] <;> rfl
theorem base_plain {e : PySem.Expr} {f : Str} {env : PySem.Env} {whole : PySem.Sem Value} (h : plainB e = true) : attributeBase e f env whole = whole := by
  unfold attributeBase
  cases e with
  | Call fn args kws p =>
    cases fn with
    | Name x q => cases args with
      | nil => cases kws with
        | nil => cases h
        | cons _ _ => rfl
      | cons _ _ => rfl
    | _ => rfl
  | _ => rfl
theorem true_byVal {e : PySem.Expr} {env : PySem.Env} (h : byVal e = true) (whole : PySem.Sem Value) : isTrue e env whole = (do let v ← whole; standAt e.pos; holding [v] (truthy v)) := by
  cases e with
  | UnaryOp op a p => cases op <;> first | rfl | cases h
  | BoolOp _ _ _ => cases h
  | IfExp _ _ _ _ => cases h
  | Compare _ _ _ _ => cases h
  | _ => rfl
theorem set_none {e : PySem.Expr} {env : PySem.Env} (h : noSet e = true) (x : Value) : foldedSetIterable e env x = pure x := by
  cases e <;> first | rfl | cases h
theorem plain_ix {e : PySem.Expr} (h : notSlice e = true) : PlainIx e := by
  intro o i
  cases e <;> first | rfl | cases h
section
variable {CX : CXT} {j n : Nat} {f : Addr} {fd : FuncData} {ps ks : List Str} {sp : Sp} {E : L2.St → XK} {x : Str} {p pos : Pos} {es : List PySem.Expr} {e : PySem.Expr} {kws : List Keyword} {t tk : TA} {gg : List Value → List Value → List Value} {gV : List V → List V → List V}
theorem run_kall (F : FnOk X.prog X.w X.K X.mg X.base CX j f fd ps sp) (hr : Room j X.A)
    (hb : ∀ (s : Shared) (us ws : List Value), X.K.In s.heap → us.length = n → ws.length = ks.length → BindsTo s fd ⟨us, ks.zip ws⟩ (ps.zip (gg us ws)))
    (hrel : ∀ {vs : List V} {us : List Value} {zs : List V} {ws : List Value}, Vals vs us → Vals zs ws → Vals (gV vs zs) (gg us ws)) (hx : ∀ σ, PassesAt CX X σ (E σ)) {pins : List (Addr × Obj)} {s : Shared} {σ : L2.St} {H : Hp} {Q : VK} {us ws : List Value} {vs zs : List V} (I : Inv X pins σ H s)
    (r : Vals vs us) (rz : Vals zs ws) (l1 : vs.length = n) (l2 : zs.length = ks.length) (h : sp (gV vs zs) H Q (E σ)) :
      wpAny (model X.prog X.w) X.A (call (.ref f) us (ks.zip ws)) (EP X pins σ Q) X.xe s := by
  have r2 := hrel r rz
  refine wpAny_call (codeAny_mono (F.run X.A X.stack s H ⟨us, ks.zip ws⟩ (gg us ws) (gV vs zs) Q (E σ) hr I.env0 (hb s us ws I.kIn (by rw [← r.length]; exact l1) (by rw [← rz.length]; exact l2)) r2 h) fun r s' hq => ?_)
  cases r with
  | error e => exact hx σ pins H s e s' I hq
  | ok fl =>
    cases fl with
    | ret u => exact I.after hq
    | next => exact False.elim hq
    | brk => exact False.elim hq
    | cont => exact False.elim hq
/-- f(e, .., k = v, ..) -/
theorem pe_kall1 (F : FnOk X.prog X.w X.K X.mg X.base CX j f fd ps sp) (hr : Room j X.A) (hg : Gl X x) (hm : X.mg x = some (.ref f)) (hk : PySem.W.keepIn X.K (.ref f) = true)
    (hb : ∀ (s : Shared) (us ws : List Value), X.K.In s.heap → us.length = n → ws.length = ks.length → BindsTo s fd ⟨us, ks.zip ws⟩ (ps.zip (gg us ws)))
    (hrel : ∀ {vs : List V} {us : List Value} {zs : List V} {ws : List Value}, Vals vs us → Vals zs ws → Vals (gV vs zs) (gg us ws)) (hx : ∀ σ, PassesAt CX X σ (E σ))
    (hns : (e :: es).all notStar = true) (ha : PA X (e :: es) t) (hkw : PK X kws tk) (hks : kws.map (·.arg) = ks.map some) (hdb : (x == ("__debug__" : Str)) = false) :
    PE X (.Call (.Name x p) (e :: es) kws pos) (fun σ H Q => t σ H fun vs H1 => tk σ H1 fun zs H2 => vs.length = n ∧ zs.length = ks.length ∧ sp (gV vs zs) H2 Q (E σ)) := by
  obtain ⟨k1, k2, k3⟩ := kw_names (env := X.env) (pos := pos) hks
  refine ⟨fun pins s σ H Q I h => ?_⟩
  refine wpAny_Call_Name_kw (ld_glob I hg hm ?_ hdb)
  have hns0 := hns
  rw [List.all_cons] at hns
  obtain ⟨n1, n2⟩ := band hns
  refine PySem.W.callWith_KW (h₀ := X.base) I.ok.mod.kin hk k1 (thn (ha.run pos pins s σ H _ I h) fun us s1 ⟨vs, H1, I1, r, q⟩ => ?_) (by rw [star_any hns0, k3]; rfl) (star_cons n1)
  refine thn (hkw.run pos pins s1 σ H1 _ I1 q) fun ws s2 ⟨zs, H2, I2, rz, l1, l2, q2⟩ => ⟨I2.kIn, ?_⟩
  rw [k2]
  exact run_kall F hr hb hrel hx I2 r rz l1 l2 q2
/-- f(k = v, ..) -/
theorem pe_kall0 (F : FnOk X.prog X.w X.K X.mg X.base CX j f fd ps sp) (hr : Room j X.A) (hg : Gl X x) (hm : X.mg x = some (.ref f)) (hk : PySem.W.keepIn X.K (.ref f) = true)
    (hb : ∀ (s : Shared) (us ws : List Value), X.K.In s.heap → us.length = 0 → ws.length = ks.length → BindsTo s fd ⟨us, ks.zip ws⟩ (ps.zip (gg us ws)))
    (hrel : ∀ {vs : List V} {us : List Value} {zs : List V} {ws : List Value}, Vals vs us → Vals zs ws → Vals (gV vs zs) (gg us ws)) (hx : ∀ σ, PassesAt CX X σ (E σ))
    (hkw : PK X kws tk) (hks : kws.map (·.arg) = ks.map some) (hdb : (x == ("__debug__" : Str)) = false) :
    PE X (.Call (.Name x p) [] kws pos) (fun σ H Q => tk σ H fun zs H2 => zs.length = ks.length ∧ sp (gV [] zs) H2 Q (E σ)) := by
  obtain ⟨k1, k2, k3⟩ := kw_names (env := X.env) (pos := pos) hks
  refine ⟨fun pins s σ H Q I h => ?_⟩
  refine wpAny_Call_Name_kw (ld_glob I hg hm ?_ hdb)
  refine PySem.W.callWith_KW0 (h₀ := X.base) I.ok.mod.kin hk k1 (thn (hkw.run pos pins s σ H _ I h) fun ws s2 ⟨zs, H2, I2, rz, l2, q2⟩ => ⟨I2.kIn, ?_⟩) (by show (false || (backToKw pos (keywordEach kws X.env)).any (·.1.isNone)) = false; rw [k3] <;> rfl)
  rw [k2]
  exact run_kall F hr hb hrel hx I2 .nil rz rfl l2 q2
end
/-! ### 15. the parts of the induction -/
/-- a display's pairs: flat values against pairs -/
inductive VV2 : List V → List (Value × Value) → Prop where
  | nil : VV2 [] []
  | cons {x y : V} {p : Value × Value} {xs : List V} {ps : List (Value × Value)} (h1 : RelV x p.1) (h2 : RelV y p.2) (t : VV2 xs ps) : VV2 (x :: y :: xs) (p :: ps)
structure PP (X : Cx) (pos : Pos) (keys : List (Option PySem.Expr)) (values : List PySem.Expr) (t : TA) : Prop where
  run : ∀ (pins : List (Addr × Obj)) (s : Shared) (σ : L2.St) (H : Hp) (Q : List V → Hp → Prop), Inv X pins σ H s → t σ H Q →
    wpAny (model X.prog X.w) X.A (evalPairs (pairTrees keys values X.env pos)) (fun vs s' => ∃ xs H', Inv X pins σ H' s' ∧ VV2 xs vs ∧ Q xs H') X.xe s
structure Snd (g : Gx) (k : Nat) (N : List Str) (c : E) : Prop where
  v : ∀ {X : Cx} {W : WX} {e : PySem.Expr}, Ctx g k X W → X.N = N → (chk N c).v X.env.scope e = true → PE X e (tE g.B W c)
  t : ∀ {X : Cx} {W : WX} {e : PySem.Expr}, Ctx g k X W → X.N = N → (chk N c).t X.env.scope e = true → PT X e (tT g.B W c)
  a : ∀ {X : Cx} {W : WX} {es : List PySem.Expr}, Ctx g k X W → X.N = N → (chk N c).a X.env.scope es = true → PA X es (tA g.B W c) ∧ es.all notStar = true
  o : ∀ {X : Cx} {W : WX} {e : Option PySem.Expr}, Ctx g k X W → X.N = N → (chk N c).o X.env.scope e = true → PO X e (tO g.B W c)
  i : ∀ {X : Cx} {W : WX} {tg e : PySem.Expr}, Ctx g k X W → X.N = N → (chk N c).i X.env.scope tg e = true → PI X tg e (tI g.B W c) ∧ noSet e = true
  kw : ∀ {X : Cx} {W : WX} {ks : List Str} {kws : List Keyword}, Ctx g k X W → X.N = N → (chk N c).kw X.env.scope ks kws = true → PK X kws (tA g.B W c) ∧ kws.map (·.arg) = ks.map some
  an : ∀ {X : Cx} {W : WX} {es : List PySem.Expr} {pos : Pos}, Ctx g k X W → X.N = N → (chk N c).an X.env.scope es = true → PE X (.BoolOp .And es pos) (tE g.B W c)
  on : ∀ {X : Cx} {W : WX} {es : List PySem.Expr} {pos : Pos}, Ctx g k X W → X.N = N → (chk N c).on X.env.scope es = true → PE X (.BoolOp .Or es pos) (tE g.B W c)
  ant : ∀ {X : Cx} {W : WX} {es : List PySem.Expr} {pos : Pos}, Ctx g k X W → X.N = N → (chk N c).ant X.env.scope es = true → PW X (.BoolOp .And es pos) (tT g.B W c)
  ont : ∀ {X : Cx} {W : WX} {es : List PySem.Expr} {pos : Pos}, Ctx g k X W → X.N = N → (chk N c).ont X.env.scope es = true → PW X (.BoolOp .Or es pos) (tT g.B W c)
  ifs : ∀ {X : Cx} {W : WX} {es : List PySem.Expr}, Ctx g k X W → X.N = N → (chk N c).ifs X.env.scope es = true → PTs X es (tT g.B W c)
  prs : ∀ {X : Cx} {W : WX} {pos : Pos} {ks : List (Option PySem.Expr)} {vs : List PySem.Expr}, Ctx g k X W → X.N = N → (chk N c).prs X.env.scope ks vs = true → PP X pos ks vs (tA g.B W c)
theorem one1_of {f : Scope → PySem.Expr → Bool} {sc : Scope} {es : List PySem.Expr} (h : one1 f sc es = true) : ∃ e, es = [e] ∧ f sc e = true := by
  match es, h with
  | [e], h => exact ⟨e, rfl, h⟩
  | [], h => cases h
  | _ :: _ :: _, h => cases h
/-- truth by value -/
theorem tru_go {d : D} {v : V} {K : PySem.W.Frag} {Q : Bool → Hp → Prop} {kx : Exn → Rh → Store → Hp → Prop} (s : Sim B ρ S H) (r : Rep B ρ H d v) (gg : Go B ρ H (tru d S) (fun b _ _ H' => Q b H') kx) : ∃ kk, TruV K v H kk ∧ Q kk H := by
  cases r with
  | non => exact ⟨false, rfl, Go.now s gg⟩
  | bl b => exact ⟨b, rfl, Go.now s gg⟩
  | int i => exact ⟨i != 0, rfl, Go.now s gg⟩
  | @tup a ds vs n q rl =>
    refine ⟨!vs.isEmpty, .inr (.inl ⟨vs, SqT.of q, rfl⟩), ?_⟩
    have := Go.now s (show Go B ρ H (.ok (!ds.isEmpty) S) (fun b _ _ H' => Q b H') kx from gg)
    have e : ds.isEmpty = vs.isEmpty := by cases rl <;> rfl
    rw [← e]; exact this
  | @lst a ds vs n q rl =>
    refine ⟨!vs.isEmpty, .inl ⟨vs, SqL.of q, rfl⟩, ?_⟩
    have := Go.now s (show Go B ρ H (.ok (!ds.isEmpty) S) (fun b _ _ H' => Q b H') kx from gg)
    have e : ds.isEmpty = vs.isEmpty := by cases rl <;> rfl
    rw [← e]; exact this
  | _ => exact gg.elim
theorem pt_of_val {W : WX} {c : E} {e : PySem.Expr} (ht : ∀ env, tst c env = M.bind (ev c env) tru) (h : PE X e (tE B W c)) (b : byVal e = true) : PT X e (tT B W c) := by
  refine PT.imp (pt_truth h (true_byVal b)) fun σ H Q ⟨ρ, env, S, hs, s, gg⟩ => ?_
  rw [ht] at gg
  exact subE hs s gg fun d v ρ1 S1 H1 e1 hs1 s1 r g1 => tru_go s1 r g1
theorem po_of_val {W : WX} {c : E} {e : PySem.Expr} (ho : ∀ env, evO c env = M.bind (ev c env) optI) (h : PE X e (tE B W c)) : PO X (some e) (tO B W c) := by
  refine PO.imp (po_some h) fun σ H Q ⟨ρ, env, S, hs, s, gg⟩ => ?_
  rw [ho] at gg
  refine subE hs s gg fun d v ρ1 S1 H1 e1 hs1 s1 r g1 => ?_
  cases r with
  | int i => exact ⟨i, rfl, Go.now s1 g1⟩
  | _ => exact g1.elim
/-- a meaning by its value and its test -/
theorem Snd.mk2 {c : E} {f ft : Scope → PySem.Expr → Bool} (hc : chk N c = Rc.of2 f ft) (ho : ∀ env, evO c env = M.bind (ev c env) optI)
    (hv : ∀ {X : Cx} {W : WX} {e : PySem.Expr}, Ctx g k X W → X.N = N → f X.env.scope e = true → PE X e (tE g.B W c))
    (ht : ∀ {X : Cx} {W : WX} {e : PySem.Expr}, Ctx g k X W → X.N = N → ft X.env.scope e = true → PT X e (tT g.B W c)) (hsv : ∀ env, evS c env = M.bind (ev c env) srcOf := by intro env; rfl) : Snd g k N c where
  v := fun cx n h => hv cx n (by rw [hc] at h; exact h)
  t := fun cx n h => ht cx n (by rw [hc] at h; exact h)
  a := fun cx n h => by rw [hc] at h; cases h
  o := fun {X W e} cx n h => by
    rw [hc] at h
    cases e with
    | none => cases h
    | some e => exact po_of_val ho (hv cx n h)
  i := fun cx n h => by
    rw [hc] at h
    obtain ⟨h1, h2⟩ := band h
    exact ⟨pi_val hsv cx (hv cx n h2), h1⟩
  kw := fun cx n h => by rw [hc] at h; cases h
  an := fun cx n h => by
    rw [hc] at h
    obtain ⟨e, rfl, h⟩ := one1_of h
    exact pe_one (hv cx n h)
  on := fun cx n h => by
    rw [hc] at h
    obtain ⟨e, rfl, h⟩ := one1_of h
    exact pe_one (hv cx n h)
  ant := fun cx n h => by
    rw [hc] at h
    obtain ⟨e, rfl, h⟩ := one1_of h
    exact pw_and1 (ht cx n h)
  ont := fun cx n h => by
    rw [hc] at h
    obtain ⟨e, rfl, h⟩ := one1_of h
    exact pw_or1 (ht cx n h)
  ifs := fun cx n h => by
    rw [hc] at h
    obtain ⟨e, rfl, h⟩ := one1_of h
    exact pts_one (ht cx n h)
  prs := fun cx n h => by rw [hc] at h; cases h
theorem Snd.mk1 {c : E} {f : Scope → PySem.Expr → Bool} {F : Env → M D} (hc : chk N c = Rc.of f) (hR : evR c = Rd4.of F)
    (hv : ∀ {X : Cx} {W : WX} {e : PySem.Expr}, Ctx g k X W → X.N = N → f X.env.scope e = true → PE X e (tE g.B W c)) : Snd g k N c := by
  refine Snd.mk2 hc (fun env => ?_) hv (fun cx n h => ?_) fun env => ?_
  · show (evR c).o env = M.bind ((evR c).v env) optI
    rw [hR] <;> rfl
  · obtain ⟨h1, h2⟩ := band h
    refine pt_of_val (fun env => ?_) (hv cx n h2) h1
    show (evR c).t env = M.bind ((evR c).v env) tru
    rw [hR] <;> rfl
  · show (evR c).s env = M.bind ((evR c).v env) srcOf
    rw [hR] <;> rfl
end Py
-- PyJ
namespace Py
open PySem PySem.Spec PyProof.Rows L2
variable {g : Gx} {k : Nat} {N : List Str}
/-! ### 16. one by one -/
theorem ctx_u1 {W : WX} (c : Ctx g k X W) : X.A.units + 1 < cLine := hu_of c.room
theorem ctx_u64 {W : WX} (c : Ctx g k X W) : X.A.units + 64 < cLine := c.room.units
theorem ctx_u65 {W : WX} (c : Ctx g k X W) : X.A.units + 65 < cLine := by have := c.room.un; omega
theorem snd_var (i : Nat) : Snd g k N (.var i) := by
  refine Snd.mk1 (f := _) rfl rfl fun {X W e} cx n h => ?_
  cases e with
  | Name x p =>
    have h : varOk N X.env.scope i x = true := h
    obtain ⟨h1, h2⟩ := band h
    obtain ⟨h2, h3⟩ := band h2
    obtain ⟨o1, o2, _⟩ := odd_of h3
    refine PE.imp (pe_var (i := i) (by rw [n]; exact of_decide_eq_true h1) (vis_of h2) o1 o2) fun σ H Q ⟨ρ, env, S, hs, s, gg⟩ => ?_
    obtain ⟨d, e, g1⟩ := go_opt (show Go g.B ρ H (M.opt ((env[i]?).bind id) S) (KV1 g.B Q) _ from gg)
    have e' : env[i]? = some (some d) := by
      cases q : env[i]? with
      | none => rw [q] at e; cases e
      | some o =>
        rw [q] at e
        have : o = some d := e
        rw [this]
    obtain ⟨v, h4, r⟩ := hs.2 i d e'
    exact ⟨v, h4, nowV s g1 r⟩
  | _ => cases h
theorem snd_con (d : D) : Snd g k N (.con d) := by
  refine Snd.mk1 (f := _) rfl rfl fun {X W e} cx n h => ?_
  cases e with
  | Constant c j p =>
    have h : conIs d c = true := h
    cases d with
    | non => cases c with
      | none => exact PE.imp pe_non fun σ H Q ⟨ρ, env, S, hs, s, gg⟩ => nowV s gg .non
      | _ => cases h
    | bl b => cases c with
      | bool b' =>
        have : b = b' := eq_of_beq h
        subst this
        exact PE.imp pe_bl fun σ H Q ⟨ρ, env, S, hs, s, gg⟩ => nowV s gg (.bl _)
      | _ => cases h
    | int b => cases c with
      | int b' =>
        have : b = b' := of_decide_eq_true h
        subst this
        exact PE.imp pe_int fun σ H Q ⟨ρ, env, S, hs, s, gg⟩ => nowV s gg (.int _)
      | _ => cases h
    | str b => cases c with
      | str b' =>
        have : b = b' := of_decide_eq_true h
        subst this
        exact PE.imp pe_str fun σ H Q ⟨ρ, env, S, hs, s, gg⟩ => nowV s gg (.str _)
      | _ => cases h
    | _ => cases c <;> cases h
  | _ => cases h
theorem snd_glob (y : Str) (d : D) (ok : OkE g k (.glob y d)) : Snd g k N (.glob y d) := by
  refine Snd.mk1 (f := _) rfl rfl fun {X W e} cx n h => ?_
  cases e with
  | Name x p =>
    have h : (decide (y = x) && nameOk X.env.scope x) = true := h
    obtain ⟨h1, h2⟩ := band h
    have : y = x := of_decide_eq_true h1
    subst this
    obtain ⟨u, v, hm, r, hr⟩ := ok
    obtain ⟨hg, hd, _⟩ := gl_of h2
    exact PE.imp (pe_glob hg (by rw [cx.mg]; exact hm) r hd) fun σ H Q ⟨ρ, env, S, hs, s, gg⟩ => nowV s gg (hr ρ H)
  | _ => cases h
theorem snd_no : Snd g k N .no where
  v := fun cx n h => by cases h
  t := fun cx n h => by cases h
  a := fun cx n h => by cases h
  o := fun {X W e} cx n h => by
    cases e with
    | none => exact PO.imp po_none fun σ H Q ⟨ρ, env, S, hs, s, gg⟩ => Go.now s gg
    | some _ => cases h
  i := fun cx n h => by cases h
  kw := fun cx n h => by cases h
  an := fun cx n h => by cases h
  on := fun cx n h => by cases h
  ant := fun cx n h => by cases h
  ont := fun cx n h => by cases h
  ifs := fun {X W es} cx n h => by
    cases es with
    | nil => exact ⟨fun pins s σ H Q I ⟨ρ, env, S, hs, s', gg⟩ => pts_nil.run pins s σ H Q I (Go.now s' gg)⟩
    | cons _ _ => cases h
  prs := fun cx n h => by cases h
theorem snd_nil : Snd g k N .nil where
  v := fun cx n h => by cases h
  t := fun cx n h => by cases h
  a := fun {X W es} cx n h => by
    cases es with
    | nil => exact ⟨PA.imp pa_nil fun σ H Q ⟨ρ, env, S, hs, s, gg⟩ => Go.now s gg _ .nil, rfl⟩
    | cons _ _ => cases h
  o := fun cx n h => by cases h
  i := fun cx n h => by cases h
  kw := fun {X W ks kws} cx n h => by
    obtain ⟨h1, h2⟩ := band (show (ks.isEmpty && kws.isEmpty) = true from h)
    cases ks with
    | nil => cases kws with
      | nil => exact ⟨PK.imp pk_nil fun σ H Q ⟨ρ, env, S, hs, s, gg⟩ => Go.now s gg _ .nil, rfl⟩
      | cons _ _ => cases h2
    | cons _ _ => cases h1
  an := fun cx n h => by cases h
  on := fun cx n h => by cases h
  ant := fun cx n h => by cases h
  ont := fun cx n h => by cases h
  ifs := fun cx n h => by cases h
  prs := fun {X W pos ks vs} cx n h => by
    obtain ⟨h1, h2⟩ := band (show (ks.isEmpty && vs.isEmpty) = true from h)
    cases ks with
    | nil => cases vs with
      | nil => exact ⟨fun pins s σ H Q I ⟨ρ, env, S, hs, s', gg⟩ => pairTrees_nil_walk ⟨[], H, I, .nil, Go.now s' gg _ .nil⟩⟩
      | cons _ _ => cases h2
    | cons _ _ => cases h1
theorem cons_go {W : WX} {e es : E} {Q : List V → Hp → Prop} (h : tA B W (.cons e es) σ H Q) : tE B W e σ H fun x H1 => tA B W es σ H1 fun xs H2 => Q (x :: xs) H2 := by
  obtain ⟨ρ, env, S, hs, s, gg⟩ := h
  have gg : Go B ρ H (M.bind (ev e env) (fun x => M.bind (evA es env) fun xs => M.pure (x :: xs)) S) (KL1 B Q) (KX B W σ) := gg
  refine subE hs s gg fun d v ρ1 S1 H1 e1 hs1 s1 r g1 => ?_
  refine subA hs1 s1 g1 fun ds vs ρ2 S2 H2 e2 hs2 s2 rl g2 => ?_
  exact Go.now s2 g2 _ (.cons (r.mono e2) rl)
theorem snd_cons (e es : E) (i1 : Snd g k N e) (i2 : Snd g k N es) : Snd g k N (.cons e es) where
  v := fun cx n h => by cases h
  t := fun cx n h => by cases h
  a := fun {X W xs} cx n h => by
    cases xs with
    | nil => cases h
    | cons x xs =>
      obtain ⟨h1, h2⟩ := band (show (notStar x && ((chk N e).v X.env.scope x && (chk N es).a X.env.scope xs)) = true from h)
      obtain ⟨h2, h3⟩ := band h2
      obtain ⟨p2, q2⟩ := i2.a cx n h3
      exact ⟨PA.imp (pa_cons (i1.v cx n h2) p2 (star_cons h1)) fun σ H Q z => cons_go z, by rw [List.all_cons, h1, q2] <;> rfl⟩
  o := fun cx n h => by cases h
  i := fun cx n h => by cases h
  kw := fun {X W ks kws} cx n h => by
    cases ks with
    | nil => cases h
    | cons y ks => cases kws with
      | nil => cases h
      | cons w kws =>
        obtain ⟨nm, x, p⟩ := w
        cases nm with
        | none => cases h
        | some z =>
          obtain ⟨h1, h2⟩ := band (show (decide (y = z) && ((chk N e).v X.env.scope x && (chk N es).kw X.env.scope ks kws)) = true from h)
          obtain ⟨h2, h3⟩ := band h2
          obtain ⟨p2, q2⟩ := i2.kw cx n h3
          have : y = z := of_decide_eq_true h1
          subst this
          exact ⟨PK.imp (pk_cons (i1.v cx n h2) p2) fun σ H Q z => cons_go z, by rw [List.map_cons, List.map_cons, q2]⟩
  an := fun cx n h => by cases h
  on := fun cx n h => by cases h
  ant := fun cx n h => by cases h
  ont := fun cx n h => by cases h
  prs := fun cx n h => by cases h
  ifs := fun cx n h => by cases h
theorem snd_tup (es : E) (i1 : Snd g k N es) : Snd g k N (.tup es) := by
  refine Snd.mk1 (f := _) rfl rfl fun {X W e} cx n h => ?_
  cases e with
  | Tuple xs j p =>
    obtain ⟨pa, _⟩ := i1.a cx n (show (chk N es).a X.env.scope xs = true from h)
    refine PE.imp (pe_tup pa) fun σ H Q ⟨ρ, env, S, hs, s, gg⟩ => ?_
    refine subA hs s gg fun ds vs ρ1 S1 H1 e1 hs1 s1 rl g1 => ?_
    by_cases c : fits ds.length = true
    · rw [if_pos c] at g1
      exact ⟨by rw [← rl.len]; exact fits_le c, newV s1 g1 (newTup s1 rl)⟩
    · rw [if_neg c] at g1
      exact g1.elim
  | _ => cases h
theorem snd_lst (m : Bool) (es : E) (i1 : Snd g k N es) : Snd g k N (.lst m es) := by
  refine Snd.mk1 (f := _) rfl rfl fun {X W e} cx n h => ?_
  cases e with
  | List xs p =>
    obtain ⟨pa, _⟩ := i1.a cx n (show (chk N es).a X.env.scope xs = true from h)
    refine PE.imp (pe_lst pa) fun σ H Q ⟨ρ, env, S, hs, s, gg⟩ => ?_
    refine subA hs s gg fun ds vs ρ1 S1 H1 e1 hs1 s1 rl g1 => ?_
    by_cases c : fits ds.length = true
    · rw [if_pos c] at g1
      exact ⟨by rw [← rl.len]; exact fits_le c, newMk s1 rl g1⟩
    · rw [if_neg c] at g1
      exact g1.elim
  | _ => cases h
theorem snd_edic : Snd g k N .edic := by
  refine Snd.mk1 (f := _) rfl rfl fun {X W e} cx n h => ?_
  cases e with
  | Dict ks vs p =>
    cases ks with
    | nil => cases vs with
      | nil =>
        refine PE.imp pe_dnewK fun σ H Q ⟨ρ, env, S, hs, s, gg⟩ => ?_
        intro p hp
        have e := Ext.allocC s (.dK []) hp
        refine gg (ρ.more p) (upd H p (.dK [])) e (s.allocC hp (.dic upd_same .nil)) _ (.cell ?_)
        rw [← s.len]
        exact more_at ρ p
      | cons _ _ => cases h
    | cons _ _ => cases h
  | _ => cases h
theorem snd_bin (op : Bop) (a b : E) (i1 : Snd g k N a) (i2 : Snd g k N b) : Snd g k N (.bin op a b) := by
  refine Snd.mk1 (f := _) rfl rfl fun {X W e} cx n h => ?_
  cases e with
  | BinOp a' o' b' p =>
    obtain ⟨h1, h2⟩ := band (show (bopIs op o' && ((chk N a).v X.env.scope a' && (chk N b).v X.env.scope b')) = true from h)
    obtain ⟨h2, h3⟩ := band h2
    have := bopIs_eq h1
    subst this
    refine PE.imp (pe_op (op_bin (B := g.B) op) (i1.v cx n h2) (i2.v cx n h3)) fun σ H Q ⟨ρ, env, S, hs, s, gg⟩ => ?_
    refine subE hs s gg fun x v ρ1 S1 H1 e1 hs1 s1 r1 g1 => ?_
    refine subE hs1 s1 g1 fun y u ρ2 S2 H2 e2 hs2 s2 r2' g2 => ?_
    exact r2.mk s2 (r1.mono e2) r2' g2
  | _ => cases h
theorem snd_addl (m : Bool) (a b : E) (i1 : Snd g k N a) (i2 : Snd g k N b) : Snd g k N (.addl m a b) := by
  refine Snd.mk1 (f := _) rfl rfl fun {X W e} cx n h => ?_
  cases e with
  | BinOp a' o' b' p =>
    cases o' with
    | Add =>
      obtain ⟨h2, h3⟩ := band (show ((chk N a).v X.env.scope a' && (chk N b).v X.env.scope b') = true from h)
      refine PE.imp (pe_op (op_addl (B := g.B) (m := m)) (i1.v cx n h2) (i2.v cx n h3)) fun σ H Q ⟨ρ, env, S, hs, s, gg⟩ => ?_
      refine subE hs s gg fun x v ρ1 S1 H1 e1 hs1 s1 r1 g1 => ?_
      refine subE hs1 s1 g1 fun y u ρ2 S2 H2 e2 hs2 s2 r2' g2 => ?_
      exact r2.mk s2 (r1.mono e2) r2' g2
    | _ => cases h
  | _ => cases h
def cmpOp : Cop → CmpOp
  | .eq => .Eq | .ne => .NotEq | .lt => .Lt | .le => .LtE | .gt => .Gt | .ge => .GtE | .is => .Is | .isnot => .IsNot | .isin => .In | .notin => .NotIn
theorem copIs_eq {b : Cop} {o : CmpOp} (h : copIs b o = true) : o = cmpOp b := by
  cases b <;> cases o <;> first | rfl | cases h
theorem op_cmp {W : WX} (cx : Ctx g k X W) (c : Cop) : OpR X (compareOp (cmpOp c)) (r2 g.B (opCmp c)) := by
  cases c
  · exact op_cmp_eq (ctx_u64 cx)
  · exact op_cmp_ne (ctx_u64 cx)
  · exact op_cmp_lt
  · exact op_cmp_le
  · exact op_cmp_gt
  · exact op_cmp_ge
  · exact op_cmp_is
  · exact op_cmp_isnot
  · exact op_cmp_in (ctx_u65 cx) cx.K
  · exact op_cmp_notin (ctx_u65 cx) cx.K
/-- a comparison's answer is a bool -/
theorem cmp_bool {c : Cop} {a b d : D} (h : opCmp c a b S = .ok d S') : ∃ q, d = .bl q := by
  cases c with
  | eq =>
    have h1 : M.opt ((eqD S a b).map D.bl) S = .ok d S' := h
    cases e : eqD S a b <;> rw [e] at h1 <;> cases h1
    exact ⟨_, rfl⟩
  | ne =>
    have h1 : M.opt ((eqD S a b).map fun k => D.bl (!k)) S = .ok d S' := h
    cases e : eqD S a b <;> rw [e] at h1 <;> cases h1
    exact ⟨_, rfl⟩
  | is =>
    have h1 : M.opt ((isD a b).map D.bl) S = .ok d S' := h
    cases e : isD a b <;> rw [e] at h1 <;> cases h1
    exact ⟨_, rfl⟩
  | isnot =>
    have h1 : M.opt ((isD a b).map fun k => D.bl (!k)) S = .ok d S' := h
    cases e : isD a b <;> rw [e] at h1 <;> cases h1
    exact ⟨_, rfl⟩
  | isin =>
    obtain ⟨q, S1, _, h1⟩ := M.bind_ok (show M.bind (isInD a b) (fun k => M.pure (D.bl k)) S = .ok d S' from h)
    exact ⟨q, (M.pure_ok h1).1⟩
  | notin =>
    obtain ⟨q, S1, _, h1⟩ := M.bind_ok (show M.bind (isInD a b) (fun k => M.pure (D.bl (!k))) S = .ok d S' from h)
    exact ⟨!q, (M.pure_ok h1).1⟩
  | _ =>
    cases a with
    | int i => cases b with
      | int j => cases h; exact ⟨_, rfl⟩
      | _ => cases h
    | _ => cases h
theorem cmp_noexc {c : Cop} {a b : D} {x : Exn} (h : opCmp c a b S = .exc x S') : False := by
  cases c with
  | eq =>
    have h1 : M.opt ((eqD S a b).map D.bl) S = .exc x S' := h
    cases e : eqD S a b <;> rw [e] at h1 <;> cases h1
  | ne =>
    have h1 : M.opt ((eqD S a b).map fun k => D.bl (!k)) S = .exc x S' := h
    cases e : eqD S a b <;> rw [e] at h1 <;> cases h1
  | is =>
    have h1 : M.opt ((isD a b).map D.bl) S = .exc x S' := h
    cases e : isD a b <;> rw [e] at h1 <;> cases h1
  | isnot =>
    have h1 : M.opt ((isD a b).map fun k => D.bl (!k)) S = .exc x S' := h
    cases e : isD a b <;> rw [e] at h1 <;> cases h1
  | isin =>
    rcases M.bind_exc (show M.bind (isInD a b) (fun k => M.pure (D.bl k)) S = .exc x S' from h) with h | ⟨_, _, _, h⟩
    · exact isIn_noexc h
    · exact M.pure_exc h
  | notin =>
    rcases M.bind_exc (show M.bind (isInD a b) (fun k => M.pure (D.bl (!k))) S = .exc x S' from h) with h | ⟨_, _, _, h⟩
    · exact isIn_noexc h
    · exact M.pure_exc h
  | _ =>
    cases a with
    | int i => cases b with
      | int j => cases h
      | _ => cases h
    | _ => cases h
/-- the value of a comparison, taken as a test -/
theorem cmp_test {c : Cop} {x y : V} {d1 d2 : D} {Q : Bool → Hp → Prop} {W : WX} (s : Sim B ρ S H) (h1 : Rep B ρ H d1 x) (h2 : Rep B ρ H d2 y) (gg : Go B ρ H (M.bind (opCmp c d1 d2) tru S) (fun b _ _ H' => Q b H') (KX B W σ)) :
    r2 B (opCmp c) x y H fun v H' => ∃ kk, v = .bl kk ∧ Q kk H' := by
  refine r2.mk (kx := KX B W σ) s h1 h2 ?_
  have g1 := Go.bindM gg
  cases e : opCmp c d1 d2 S with
  | ok d S1 =>
    rw [e] at g1
    obtain ⟨q, rfl⟩ := cmp_bool e
    exact fun ρ' H' e1 s1 v r => by
      cases r
      exact ⟨q, rfl, Go.now s1 (g1 ρ' H' e1 s1)⟩
  | exc z S1 => exact (cmp_noexc e).elim
  | stuck => rw [e] at g1; exact g1.elim
end Py
-- PyK
namespace Py
open PySem PySem.Spec PyProof.Rows L2
variable {g : Gx} {k : Nat} {N : List Str}
theorem snd_cmp (op : Cop) (a b : E) (i1 : Snd g k N a) (i2 : Snd g k N b) : Snd g k N (.cmp op a b) := by
  refine Snd.mk2 (f := _) (ft := _) rfl (fun _ => rfl) (fun {X W e} cx n h => ?_) (fun {X W e} cx n h => ?_)
  · cases e with
    | Compare a' os bs p =>
      match os, bs, h with
      | [o'], [b'], h =>
        obtain ⟨h1, h2⟩ := band (show (copIs op o' && (!behindInMarks o' b' && ((chk N a).v X.env.scope a' && (chk N b).v X.env.scope b'))) = true from h)
        obtain ⟨h2, h3⟩ := band h2
        obtain ⟨h3, h4⟩ := band h3
        have := copIs_eq h1
        subst this
        refine PE.imp (pe_cmpR (op_cmp cx op) (i1.v cx n h3) (i2.v cx n h4) (by simpa using h2)) fun σ H Q ⟨ρ, env, S, hs, s, gg⟩ => ?_
        refine subE hs s gg fun x v ρ1 S1 H1 e1 hs1 s1 r1 g1 => ?_
        refine subE hs1 s1 g1 fun y u ρ2 S2 H2 e2 hs2 s2 r2' g2 => ?_
        exact r2.mk s2 (r1.mono e2) r2' g2
      | [], _, h => cases h
      | [_], [], h => cases h
      | [_], _ :: _ :: _, h => cases h
      | _ :: _ :: _, _, h => cases h
    | _ => cases h
  · cases e with
    | Compare a' os bs p =>
      match os, bs, h with
      | [o'], [b'], h =>
        obtain ⟨h1, h2⟩ := band (show (copIs op o' && (!behindInMarks o' b' && ((chk N a).v X.env.scope a' && (chk N b).v X.env.scope b'))) = true from h)
        obtain ⟨h2, h3⟩ := band h2
        obtain ⟨h3, h4⟩ := band h3
        have := copIs_eq h1
        subst this
        refine PT.imp (pt_cmpR (op_cmp cx op) (i1.v cx n h3) (i2.v cx n h4) (by simpa using h2)) fun σ H Q ⟨ρ, env, S, hs, s, gg⟩ => ?_
        have gg : Go g.B ρ H (M.bind (M.bind (ev a env) fun x => M.bind (ev b env) fun y => opCmp op x y) tru S) (fun b _ _ H' => Q b H') (KX g.B W σ) := gg
        rw [M.bind_assoc] at gg
        refine subE hs s gg fun x v ρ1 S1 H1 e1 hs1 s1 r1 g1 => ?_
        rw [M.bind_assoc] at g1
        refine subE hs1 s1 g1 fun y u ρ2 S2 H2 e2 hs2 s2 r2' g2 => ?_
        exact cmp_test s2 (r1.mono e2) r2' g2
      | [], _, h => cases h
      | [_], [], h => cases h
      | [_], _ :: _ :: _, h => cases h
      | _ :: _ :: _, _, h => cases h
    | _ => cases h
/-- the first comparison of a chain -/
theorem chain_fst {c : Cop} {x y : V} {d1 d2 : D} {α : Type} {f : Bool → M α} {kk : α → Rh → Store → Hp → Prop} {W : WX} {P : Bool → Rh → Store → Hp → Prop} (s : Sim B ρ S H) (h1 : Rep B ρ H d1 x) (h2 : Rep B ρ H d2 y)
    (gg : Go B ρ H (M.bind (opCmp c d1 d2) (fun r => M.bind (boolOf r) f) S) kk (KX B W σ)) {Q : Bool → Hp → Prop} (hq : ∀ b ρ' S' H', Ext ρ H ρ' H' → Sim B ρ' S' H' → Go B ρ' H' (f b S') kk (KX B W σ) → Q b H') :
    r2 B (opCmp c) x y H fun v H' => ∃ kk, v = .bl kk ∧ Q kk H' := by
  refine r2.mk (kx := KX B W σ) s h1 h2 ?_
  have g1 := Go.bindM gg
  cases e : opCmp c d1 d2 S with
  | ok d S1 =>
    rw [e] at g1
    obtain ⟨q, rfl⟩ := cmp_bool e
    exact fun ρ' H' e1 s1 v r => by
      cases r
      exact ⟨q, rfl, hq q ρ' S1 H' e1 s1 (g1 ρ' H' e1 s1)⟩
  | exc z S1 => exact (cmp_noexc e).elim
  | stuck => rw [e] at g1; exact g1.elim
theorem snd_chain (o1 o2 : Cop) (a b c : E) (i1 : Snd g k N a) (i2 : Snd g k N b) (i3 : Snd g k N c) : Snd g k N (.chain o1 o2 a b c) := by
  have shape : ∀ {X : Cx} {W : WX} {e : PySem.Expr}, (match e with
    | .Compare a' [p, q] [b', c'] _ => copIs o1 p && (copIs o2 q && (!lastMarks [p, q] [b', c'] && ((chk N a).v X.env.scope a' && ((chk N b).v X.env.scope b' && (chk N c).v X.env.scope c'))))
    | _ => false) = true → ∃ a' b' c' pos, e = .Compare a' [cmpOp o1, cmpOp o2] [b', c'] pos ∧ lastMarks [cmpOp o1, cmpOp o2] [b', c'] = false ∧ (chk N a).v X.env.scope a' = true ∧ (chk N b).v X.env.scope b' = true ∧ (chk N c).v X.env.scope c' = true := by
    intro X W e h
    cases e with
    | Compare a' os bs p =>
      match os, bs, h with
      | [p', q'], [b', c'], h =>
        obtain ⟨h1, h2⟩ := band h
        obtain ⟨h2, h3⟩ := band h2
        obtain ⟨h3, h4⟩ := band h3
        obtain ⟨h4, h5⟩ := band h4
        obtain ⟨h5, h6⟩ := band h5
        have e1 := copIs_eq h1
        have e2 := copIs_eq h2
        subst e1
        subst e2
        exact ⟨a', b', c', p, rfl, by simpa using h3, h4, h5, h6⟩
      | [], _, h => cases h
      | [_], _, h => cases h
      | [_, _], [], h => cases h
      | [_, _], [_], h => cases h
      | [_, _], _ :: _ :: _ :: _, h => cases h
      | _ :: _ :: _ :: _, _, h => cases h
    | _ => cases h
  refine Snd.mk2 (f := _) (ft := _) rfl (fun _ => rfl) (fun {X W e} cx n h => ?_) (fun {X W e} cx n h => ?_)
  · obtain ⟨a', b', c', pos, rfl, h1, h2, h3, h4⟩ := shape (X := X) (W := W) h
    refine PE.imp (pe_chain (op_cmp cx o1) (op_cmp cx o2) (i1.v cx n h2) (i2.v cx n h3) (i3.v cx n h4) h1) fun σ H Q ⟨ρ, env, S, hs, s, gg⟩ => ?_
    refine subE hs s gg fun x v ρ1 S1 H1 e1 hs1 s1 r1 g1 => ?_
    refine subE hs1 s1 g1 fun y u ρ2 S2 H2 e2 hs2 s2 r2' g2 => ?_
    refine chain_fst (P := fun _ _ _ _ => True) s2 (r1.mono e2) r2' g2 fun q ρ3 S3 H3 e3 s3 g3 => ?_
    cases q with
    | true =>
      rw [if_pos rfl]
      rw [if_pos rfl] at g3
      refine subE (hs2.mono e3) s3 g3 fun z w' ρ4 S4 H4 e4 hs4 s4 r4 g4 => ?_
      exact r2.mk s4 (r2'.mono (e3.trans e4)) r4 g4
    | false =>
      rw [if_neg Bool.false_ne_true]
      rw [if_neg Bool.false_ne_true] at g3
      exact nowV s3 g3 (.bl _)
  · obtain ⟨a', b', c', pos, rfl, h1, h2, h3, h4⟩ := shape (X := X) (W := W) h
    refine PT.imp (pt_chain (op_cmp cx o1) (op_cmp cx o2) (i1.v cx n h2) (i2.v cx n h3) (i3.v cx n h4) h1) fun σ H Q ⟨ρ, env, S, hs, s, gg⟩ => ?_
    have gg : Go g.B ρ H (M.bind (M.bind (ev a env) fun x => M.bind (ev b env) fun y => M.bind (opCmp o1 x y) fun r => M.bind (boolOf r) fun k => if k then M.bind (ev c env) fun z => opCmp o2 y z else M.pure (.bl false)) tru S) (fun b _ _ H' => Q b H') (KX g.B W σ) := gg
    rw [M.bind_assoc] at gg
    refine subE hs s gg fun x v ρ1 S1 H1 e1 hs1 s1 r1 g1 => ?_
    rw [M.bind_assoc] at g1
    refine subE hs1 s1 g1 fun y u ρ2 S2 H2 e2 hs2 s2 r2' g2 => ?_
    rw [M.bind_assoc] at g2
    have g2' : Go g.B ρ2 H2 (M.bind (opCmp o1 x y) (fun r => M.bind (boolOf r) fun k => M.bind (if k then M.bind (ev c env) fun z => opCmp o2 y z else M.pure (.bl false)) tru) S2) (fun b _ _ H' => Q b H') (KX g.B W σ) := by
      have : (fun a => M.bind (M.bind (boolOf a) fun k => if k then M.bind (ev c env) fun z => opCmp o2 y z else M.pure (.bl false)) tru) = fun r => M.bind (boolOf r) fun k => M.bind (if k then M.bind (ev c env) fun z => opCmp o2 y z else M.pure (.bl false)) tru := by
        funext r
        rw [M.bind_assoc]
      rw [← this]
      exact g2
    refine chain_fst (P := fun _ _ _ _ => True) s2 (r1.mono e2) r2' g2' fun q ρ3 S3 H3 e3 s3 g3 => ?_
    cases q with
    | true =>
      rw [if_pos rfl]
      rw [if_pos rfl, M.bind_assoc] at g3
      refine subE (hs2.mono e3) s3 g3 fun z w' ρ4 S4 H4 e4 hs4 s4 r4 g4 => ?_
      exact cmp_test s4 (r2'.mono (e3.trans e4)) r4 g4
    | false =>
      rw [if_neg Bool.false_ne_true]
      rw [if_neg Bool.false_ne_true] at g3
      exact ⟨false, rfl, Go.now s3 g3⟩
theorem snd_neg (a : E) (i1 : Snd g k N a) : Snd g k N (.neg a) := by
  refine Snd.mk1 (f := _) rfl rfl fun {X W e} cx n h => ?_
  cases e with
  | UnaryOp o a' p =>
    cases o with
    | USub =>
      refine PE.imp (pe_un un_neg (i1.v cx n h)) fun σ H Q ⟨ρ, env, S, hs, s, gg⟩ => ?_
      refine subE hs s gg fun x v ρ1 S1 H1 e1 hs1 s1 r1 g1 => ?_
      cases r1 with
      | int i => exact ⟨i, rfl, nowV s1 g1 (.int _)⟩
      | _ => exact g1.elim
    | _ => cases h
  | _ => cases h
theorem snd_not (a : E) (i1 : Snd g k N a) : Snd g k N (.not a) := by
  refine Snd.mk2 (f := _) (ft := _) rfl (fun _ => rfl) (fun {X W e} cx n h => ?_) (fun {X W e} cx n h => ?_)
  · cases e with
    | UnaryOp o a' p =>
      cases o with
      | Not =>
        refine PE.imp (pe_not (i1.v cx n h)) fun σ H Q ⟨ρ, env, S, hs, s, gg⟩ => ?_
        refine subE hs s gg fun x v ρ1 S1 H1 e1 hs1 s1 r1 g1 => ?_
        cases r1 with
        | bl i => exact ⟨i, rfl, nowV s1 g1 (.bl _)⟩
        | _ => exact g1.elim
      | _ => cases h
    | _ => cases h
  · cases e with
    | UnaryOp o a' p =>
      cases o with
      | Not =>
        refine PT.imp (pt_not (i1.t cx n h)) fun σ H Q ⟨ρ, env, S, hs, s, gg⟩ => ?_
        exact subT hs s gg fun b ρ1 S1 H1 e1 hs1 s1 g1 => Go.now s1 g1
      | _ => cases h
    | _ => cases h
theorem and_v {W : WX} {a b : E} {Q : VK} (h : tE B W (.and a b) σ H Q) : tE B W a σ H fun x H1 => ∃ c, x = .bl c ∧ if c = true then tE B W b σ H1 Q else Q (.bl false) H1 := by
  obtain ⟨ρ, env, S, hs, s, gg⟩ := h
  refine subE hs s gg fun x v ρ1 S1 H1 e1 hs1 s1 r1 g1 => ?_
  cases r1 with
  | bl q =>
    refine ⟨q, rfl, ?_⟩
    cases q with
    | true =>
      rw [if_pos rfl]
      exact ⟨ρ1, env, S1, hs1, s1, g1⟩
    | false =>
      rw [if_neg Bool.false_ne_true]
      exact nowV s1 g1 (.bl _)
  | _ => exact g1.elim
theorem or_v {W : WX} {a b : E} {Q : VK} (h : tE B W (.or a b) σ H Q) : tE B W a σ H fun x H1 => ∃ c, x = .bl c ∧ if c = true then Q (.bl true) H1 else tE B W b σ H1 Q := by
  obtain ⟨ρ, env, S, hs, s, gg⟩ := h
  refine subE hs s gg fun x v ρ1 S1 H1 e1 hs1 s1 r1 g1 => ?_
  cases r1 with
  | bl q =>
    refine ⟨q, rfl, ?_⟩
    cases q with
    | true =>
      rw [if_pos rfl]
      exact nowV s1 g1 (.bl _)
    | false =>
      rw [if_neg Bool.false_ne_true]
      exact ⟨ρ1, env, S1, hs1, s1, g1⟩
  | _ => exact g1.elim
theorem and_t {W : WX} {a b : E} {Q : Bool → Hp → Prop} (h : tT B W (.and a b) σ H Q) : tT B W a σ H fun c H1 => if c = true then tT B W b σ H1 Q else Q false H1 := by
  obtain ⟨ρ, env, S, hs, s, gg⟩ := h
  refine subT hs s gg fun q ρ1 S1 H1 e1 hs1 s1 g1 => ?_
  cases q with
  | true =>
    rw [if_pos rfl]
    exact ⟨ρ1, env, S1, hs1, s1, g1⟩
  | false =>
    rw [if_neg Bool.false_ne_true]
    exact Go.now s1 g1
theorem or_t {W : WX} {a b : E} {Q : Bool → Hp → Prop} (h : tT B W (.or a b) σ H Q) : tT B W a σ H fun c H1 => if c = true then Q true H1 else tT B W b σ H1 Q := by
  obtain ⟨ρ, env, S, hs, s, gg⟩ := h
  refine subT hs s gg fun q ρ1 S1 H1 e1 hs1 s1 g1 => ?_
  cases q with
  | true =>
    rw [if_pos rfl]
    exact Go.now s1 g1
  | false =>
    rw [if_neg Bool.false_ne_true]
    exact ⟨ρ1, env, S1, hs1, s1, g1⟩
theorem snd_and (a b : E) (i1 : Snd g k N a) (i2 : Snd g k N b) : Snd g k N (.and a b) := by
  have hv : ∀ {X : Cx} {W : WX} {x y : PySem.Expr} {r : List PySem.Expr} {pos : Pos}, Ctx g k X W → X.N = N → ((chk N a).v X.env.scope x && (chk N b).an X.env.scope (y :: r)) = true → PE X (.BoolOp .And (x :: y :: r) pos) (tE g.B W (.and a b)) := fun cx n h => by
    obtain ⟨h1, h2⟩ := band h
    exact PE.imp (pe_and (i1.v cx n h1) (i2.an cx n h2)) fun σ H Q z => and_v z
  have ht : ∀ {X : Cx} {W : WX} {x y : PySem.Expr} {r : List PySem.Expr} {pos : Pos}, Ctx g k X W → X.N = N → ((chk N a).t X.env.scope x && (chk N b).ant X.env.scope (y :: r)) = true → PW X (.BoolOp .And (x :: y :: r) pos) (tT g.B W (.and a b)) := fun cx n h => by
    obtain ⟨h1, h2⟩ := band h
    exact PW.imp (pw_and (i1.t cx n h1) (i2.ant cx n h2)) fun σ H Q z => and_t z
  have gen : Snd g k N (.and a b) ↔ Snd g k N (.and a b) := Iff.rfl
  have hV : ∀ {X : Cx} {W : WX} {e : PySem.Expr}, Ctx g k X W → X.N = N → (chk N (.and a b)).v X.env.scope e = true → PE X e (tE g.B W (.and a b)) := fun {X W e} cx n h => by
    cases e with
    | BoolOp o es p =>
      cases o with
      | And =>
        match es, h with
        | x :: y :: r, h => exact hv cx n h
        | [], h => cases h
        | [_], h => cases h
      | Or => cases h
    | _ => cases h
  have hT : ∀ {X : Cx} {W : WX} {e : PySem.Expr}, Ctx g k X W → X.N = N → (chk N (.and a b)).t X.env.scope e = true → PT X e (tT g.B W (.and a b)) := fun {X W e} cx n h => by
    cases e with
    | BoolOp o es p =>
      cases o with
      | And =>
        match es, h with
        | x :: y :: r, h => exact (ht cx n h).pt
        | [], h => cases h
        | [_], h => cases h
      | Or => cases h
    | _ => cases h
  exact {
    v := hV
    t := hT
    a := fun cx n h => by cases h
    o := fun {X W e} cx n h => by
      cases e with
      | none => cases h
      | some e => exact po_of_val (fun _ => rfl) (hV cx n h)
    i := fun cx n h => by
      obtain ⟨h1, h2⟩ := band h
      exact ⟨pi_val (fun _ => rfl) cx (hV cx n h2), h1⟩
    kw := fun cx n h => by cases h
    an := fun {X W es pos} cx n h => by
      match es, h with
      | x :: y :: r, h => exact hv cx n h
      | [e], h => exact pe_one (hV cx n (show (chk N (.and a b)).v X.env.scope e = true by
          cases e with
          | BoolOp o es p =>
            cases o with
            | And =>
              match es, h with
              | x :: y :: r, h => exact h
              | [], h => cases h
              | [_], h => cases h
            | Or => cases h
          | _ => cases h))
      | [], h => cases h
    on := fun {X W es pos} cx n h => by
      obtain ⟨e, rfl, h⟩ := one1_of (show one1 (chk N (.and a b)).v X.env.scope es = true from h)
      exact pe_one (hV cx n h)
    ant := fun {X W es pos} cx n h => by
      match es, h with
      | x :: y :: r, h => exact ht cx n h
      | [e], h => exact pw_and1 (hT cx n (show (chk N (.and a b)).t X.env.scope e = true by
          cases e with
          | BoolOp o es p =>
            cases o with
            | And =>
              match es, h with
              | x :: y :: r, h => exact h
              | [], h => cases h
              | [_], h => cases h
            | Or => cases h
          | _ => cases h))
      | [], h => cases h
    ont := fun {X W es pos} cx n h => by
      obtain ⟨e, rfl, h⟩ := one1_of (show one1 (chk N (.and a b)).t X.env.scope es = true from h)
      exact pw_or1 (hT cx n h)
    ifs := fun {X W es} cx n h => by
      obtain ⟨e, rfl, h⟩ := one1_of (show one1 (chk N (.and a b)).t X.env.scope es = true from h)
      exact pts_one (hT cx n h)
    prs := fun cx n h => by cases h }
theorem snd_or (a b : E) (i1 : Snd g k N a) (i2 : Snd g k N b) : Snd g k N (.or a b) := by
  have hv : ∀ {X : Cx} {W : WX} {x y : PySem.Expr} {r : List PySem.Expr} {pos : Pos}, Ctx g k X W → X.N = N → ((chk N a).v X.env.scope x && (chk N b).on X.env.scope (y :: r)) = true → PE X (.BoolOp .Or (x :: y :: r) pos) (tE g.B W (.or a b)) := fun cx n h => by
    obtain ⟨h1, h2⟩ := band h
    exact PE.imp (pe_or (i1.v cx n h1) (i2.on cx n h2)) fun σ H Q z => or_v z
  have ht : ∀ {X : Cx} {W : WX} {x y : PySem.Expr} {r : List PySem.Expr} {pos : Pos}, Ctx g k X W → X.N = N → ((chk N a).t X.env.scope x && (chk N b).ont X.env.scope (y :: r)) = true → PW X (.BoolOp .Or (x :: y :: r) pos) (tT g.B W (.or a b)) := fun cx n h => by
    obtain ⟨h1, h2⟩ := band h
    exact PW.imp (pw_or (i1.t cx n h1) (i2.ont cx n h2)) fun σ H Q z => or_t z
  have hV : ∀ {X : Cx} {W : WX} {e : PySem.Expr}, Ctx g k X W → X.N = N → (chk N (.or a b)).v X.env.scope e = true → PE X e (tE g.B W (.or a b)) := fun {X W e} cx n h => by
    cases e with
    | BoolOp o es p =>
      cases o with
      | Or =>
        match es, h with
        | x :: y :: r, h => exact hv cx n h
        | [], h => cases h
        | [_], h => cases h
      | And => cases h
    | _ => cases h
  have hT : ∀ {X : Cx} {W : WX} {e : PySem.Expr}, Ctx g k X W → X.N = N → (chk N (.or a b)).t X.env.scope e = true → PT X e (tT g.B W (.or a b)) := fun {X W e} cx n h => by
    cases e with
    | BoolOp o es p =>
      cases o with
      | Or =>
        match es, h with
        | x :: y :: r, h => exact (ht cx n h).pt
        | [], h => cases h
        | [_], h => cases h
      | And => cases h
    | _ => cases h
  exact {
    v := hV
    t := hT
    a := fun cx n h => by cases h
    o := fun {X W e} cx n h => by
      cases e with
      | none => cases h
      | some e => exact po_of_val (fun _ => rfl) (hV cx n h)
    i := fun cx n h => by
      obtain ⟨h1, h2⟩ := band h
      exact ⟨pi_val (fun _ => rfl) cx (hV cx n h2), h1⟩
    kw := fun cx n h => by cases h
    on := fun {X W es pos} cx n h => by
      match es, h with
      | x :: y :: r, h => exact hv cx n h
      | [e], h => exact pe_one (hV cx n (show (chk N (.or a b)).v X.env.scope e = true by
          cases e with
          | BoolOp o es p =>
            cases o with
            | Or =>
              match es, h with
              | x :: y :: r, h => exact h
              | [], h => cases h
              | [_], h => cases h
            | And => cases h
          | _ => cases h))
      | [], h => cases h
    an := fun {X W es pos} cx n h => by
      obtain ⟨e, rfl, h⟩ := one1_of (show one1 (chk N (.or a b)).v X.env.scope es = true from h)
      exact pe_one (hV cx n h)
    ont := fun {X W es pos} cx n h => by
      match es, h with
      | x :: y :: r, h => exact ht cx n h
      | [e], h => exact pw_or1 (hT cx n (show (chk N (.or a b)).t X.env.scope e = true by
          cases e with
          | BoolOp o es p =>
            cases o with
            | Or =>
              match es, h with
              | x :: y :: r, h => exact h
              | [], h => cases h
              | [_], h => cases h
            | And => cases h
          | _ => cases h))
      | [], h => cases h
    ant := fun {X W es pos} cx n h => by
      obtain ⟨e, rfl, h⟩ := one1_of (show one1 (chk N (.or a b)).t X.env.scope es = true from h)
      exact pw_and1 (hT cx n h)
    ifs := fun {X W es} cx n h => by
      obtain ⟨e, rfl, h⟩ := one1_of (show one1 (chk N (.or a b)).t X.env.scope es = true from h)
      exact pts_one (hT cx n h)
    prs := fun cx n h => by cases h }
theorem snd_ite (t a b : E) (i0 : Snd g k N t) (i1 : Snd g k N a) (i2 : Snd g k N b) : Snd g k N (.ite t a b) := by
  refine Snd.mk2 (f := _) (ft := _) rfl (fun _ => rfl) (fun {X W e} cx n h => ?_) (fun {X W e} cx n h => by cases h)
  cases e with
  | IfExp t' a' b' p =>
    obtain ⟨h1, h2⟩ := band (show ((chk N t).t X.env.scope t' && ((chk N a).v X.env.scope a' && (chk N b).v X.env.scope b')) = true from h)
    obtain ⟨h2, h3⟩ := band h2
    refine PE.imp (pe_ifExp (i0.t cx n h1) (i1.v cx n h2) (i2.v cx n h3)) fun σ H Q ⟨ρ, env, S, hs, s, gg⟩ => ?_
    refine subT hs s gg fun q ρ1 S1 H1 e1 hs1 s1 g1 => ?_
    cases q with
    | true =>
      rw [if_pos rfl]
      exact ⟨ρ1, env, S1, hs1, s1, g1⟩
    | false =>
      rw [if_neg Bool.false_ne_true]
      exact ⟨ρ1, env, S1, hs1, s1, g1⟩
  | _ => cases h
theorem snd_ix (a b : E) (i1 : Snd g k N a) (i2 : Snd g k N b) : Snd g k N (.ix a b) := by
  refine Snd.mk1 (f := _) rfl rfl fun {X W e} cx n h => ?_
  cases e with
  | Subscript a' b' p =>
    obtain ⟨h1, h2⟩ := band (show (notSlice b' && ((chk N a).v X.env.scope a' && (chk N b).v X.env.scope b')) = true from h)
    obtain ⟨h2, h3⟩ := band h2
    refine PE.imp (pe_ix (op_ix_all (B := g.B) (ctx_u1 cx)) (i1.v cx n h2) (i2.v cx n h3) (plain_ix h1)) fun σ H Q ⟨ρ, env, S, hs, s, gg⟩ => ?_
    refine subE hs s gg fun x v ρ1 S1 H1 e1 hs1 s1 r1 g1 => ?_
    refine subE hs1 s1 g1 fun y u ρ2 S2 H2 e2 hs2 s2 r2' g2 => ?_
    exact r2.mk s2 (r1.mono e2) r2' g2
  | _ => cases h
theorem snd_sl (a lo hi : E) (i1 : Snd g k N a) (i2 : Snd g k N lo) (i3 : Snd g k N hi) : Snd g k N (.sl a lo hi) := by
  refine Snd.mk1 (f := _) rfl rfl fun {X W e} cx n h => ?_
  cases e with
  | Subscript a' b' p =>
    cases b' with
    | Slice l u st q =>
      cases st with
      | none =>
        obtain ⟨h1, h2⟩ := band (show ((chk N a).v X.env.scope a' && ((chk N lo).o X.env.scope l && (chk N hi).o X.env.scope u)) = true from h)
        obtain ⟨h2, h3⟩ := band h2
        refine PE.imp (pe_slice (sl_all (B := g.B)) (i1.v cx n h1) (i2.o cx n h2) (i3.o cx n h3)) fun σ H Q ⟨ρ, env, S, hs, s, gg⟩ => ?_
        refine subE hs s gg fun x v ρ1 S1 H1 e1 hs1 s1 r1 g1 => ?_
        refine subO hs1 s1 g1 fun y ρ2 S2 H2 e2 hs2 s2 g2 => ?_
        refine subO hs2 s2 g2 fun z ρ3 S3 H3 e3 hs3 s3 g3 => ?_
        exact ⟨ρ3, S3, x, _, s3, r1.mono (e2.trans e3), g3⟩
      | some _ => cases h
    | _ => cases h
  | _ => cases h
theorem snd_rev (a : E) (i1 : Snd g k N a) : Snd g k N (.rev a) := by
  refine Snd.mk1 (f := _) rfl rfl fun {X W e} cx n h => ?_
  cases e with
  | Subscript a' b' p =>
    obtain ⟨h1, h2⟩ := band (show (isRev b' && (chk N a).v X.env.scope a') = true from h)
    have hb : ∃ j p1 p2 p3, b' = .Slice none none (some (.UnaryOp .USub (.Constant (.int 1) j p1) p2)) p3 := by
      unfold isRev at h1
      split at h1
      · have := of_decide_eq_true h1
        subst this
        exact ⟨_, _, _, _, rfl⟩
      · cases h1
    obtain ⟨j, p1, p2, p3, rfl⟩ := hb
    refine PE.imp (pe_revA (i1.v cx n h2)) fun σ H Q ⟨ρ, env, S, hs, s, gg⟩ => ?_
    refine subE hs s gg fun x v ρ1 S1 H1 e1 hs1 s1 r1 g1 => ?_
    cases r1 with
    | tup n q rl => exact ⟨_, _, rfl, .inr ⟨SqT.of q, newV s1 g1 (newTup s1 rl.reverse)⟩⟩
    | lst n q rl => exact ⟨_, _, rfl, .inl ⟨SqL.of q, newV s1 g1 (newLst s1 rl.reverse)⟩⟩
    | _ => exact g1.elim
  | _ => cases h
end Py
-- PyL
namespace Py
open PySem PySem.Spec PyProof.Rows L2
variable {g : Gx} {k : Nat} {N : List Str}
/-! ### 17. calls -/
theorem ctx_fn {W : WX} {CX : CXT} {j : Nat} {f : Addr} {fd : FuncData} {ps : List Str} {sp : Sp} (cx : Ctx g k X W) (F : FnOk g.P g.w g.B.K g.mg g.base CX j f fd ps sp) : FnOk X.prog X.w X.K X.mg X.base CX j f fd ps sp := by
  rw [cx.prog, cx.w, cx.K, cx.mg, cx.base]; exact F
theorem ctx_pass {W : WX} (cx : Ctx g k X W) (σ : L2.St) : PassesAt (L2.CX g.P g.w) X σ (WE W σ) := by
  have := passAt cx.tk σ
  rw [cx.prog, cx.w] at this
  exact this
theorem snd_call (nm : Str) (n : Nat) (f : Sem) (es : E) (ok : FnSem g k nm n f) (i1 : Snd g k N es) : Snd g k N (.call nm n f es) := by
  refine Snd.mk1 (f := _) rfl rfl fun {X W e} cx hN h => ?_
  cases e with
  | Call fn ys kws p =>
    cases fn with
    | Name x q =>
      match ys, kws, h with
      | y :: ys, [], h =>
        obtain ⟨h1, h2⟩ := band (show (decide (nm = x) && (nameOk X.env.scope x && (chk N es).a X.env.scope (y :: ys))) = true from h)
        obtain ⟨h2, h3⟩ := band h2
        have : nm = x := of_decide_eq_true h1
        subst this
        obtain ⟨hg, hd, _⟩ := gl_of h2
        obtain ⟨fd, ps, hl, hm, hk, hb, F⟩ := ok
        obtain ⟨pa, ns⟩ := i1.a (W := W) cx hN h3
        have ns0 := ns
        rw [List.all_cons] at ns
        obtain ⟨n1, n2⟩ := band ns
        refine PE.imp (pe_callS (E := WE W) (ctx_fn cx F) cx.room hg (by rw [cx.mg]; exact hm) (by rw [cx.K]; exact hk) (by rw [cx.K]; exact hb) (ctx_pass cx) pa hd (star_cons n1) (star_any n2)) fun σ H Q ⟨ρ, env, S, hs, s, gg⟩ => ?_
        refine subA hs s gg fun ds vs ρ1 S1 H1 e1 hs1 s1 rl g1 => ?_
        by_cases c : ds.length = n
        · rw [if_pos c] at g1
          have hvl : vs.length = ps.length := by rw [← rl.len, c, hl]
          exact ⟨ρ1, S1, ds, s1, rl, hvl, g1⟩
        · rw [if_neg c] at g1
          exact g1.elim
      | [], _, h => cases h
      | _ :: _, _ :: _, h => cases h
    | _ => cases h
  | _ => cases h
theorem a_nil {es : E} {sc : Scope} (h : (chk N es).a sc [] = true) : es = .nil := by
  cases es <;> first | rfl | cases h
theorem getD_vals : ∀ {vs : List V} {us : List Value} (i : Nat), Vals vs us → RelV (vs.getD i .non) (us.getD i .none)
  | _, _, _, .nil => (rfl : Value.none = Value.none)
  | _, _, 0, .cons r _ => r
  | _, _, i + 1, .cons _ t => getD_vals i t
theorem getD_map {vs : List V} {us : List Value} (h : Vals vs us) : ∀ gl : List Nat, Vals (gl.map fun i => vs.getD i .non) (gl.map fun i => us.getD i .none)
  | [] => .nil
  | i :: gl => .cons (getD_vals i h) (getD_map h gl)
theorem getD_rep {l : List D} {vs : List V} (h : RepL B ρ H l vs) : ∀ (gl : List Nat) (zs : List D), (gl.map fun i => l[i]?).mapM id = some zs → RepL B ρ H zs (gl.map fun i => vs.getD i .non)
  | [], zs, e => by
    have : zs = [] := by simpa using e.symm
    subst this
    exact .nil
  | i :: gl, zs, e => by
    rw [List.map_cons, List.mapM_cons] at e
    cases q : l[i]? with
    | none => rw [q] at e; cases e
    | some d =>
      rw [q] at e
      cases q2 : (gl.map fun i => l[i]?).mapM id with
      | none => rw [q2] at e; cases e
      | some t =>
        rw [q2] at e
        have : zs = d :: t := by simpa using e.symm
        subst this
        obtain ⟨v, e2, r⟩ := h.get q
        refine .cons ?_ (getD_rep h gl t q2)
        show Rep B ρ H d (vs.getD i .non)
        rw [List.getD_eq_getElem?_getD, e2]
        exact r
theorem snd_kall (nm : Str) (f : Sem) (n : Nat) (ks : List Str) (gl : List Nat) (es kes : E) (ok : KwSem g k nm f n ks gl) (i1 : Snd g k N es) (i2 : Snd g k N kes) : Snd g k N (.kall nm f n ks gl es kes) := by
  refine Snd.mk1 (f := _) rfl rfl fun {X W e} cx hN h => ?_
  cases e with
  | Call fn ys kws p =>
    cases fn with
    | Name x q =>
      obtain ⟨h1, h2⟩ := band (show (decide (nm = x) && (nameOk X.env.scope x && (decide (ys.length = n) && (!kws.isEmpty && ((chk N es).a X.env.scope ys && (chk N kes).kw X.env.scope ks kws))))) = true from h)
      obtain ⟨h2, h3⟩ := band h2
      obtain ⟨h3, h4⟩ := band h3
      obtain ⟨_, h4⟩ := band h4
      obtain ⟨h4, h5⟩ := band h4
      have : nm = x := of_decide_eq_true h1
      subst this
      have hn : ys.length = n := of_decide_eq_true h3
      obtain ⟨hg, hd, _⟩ := gl_of h2
      obtain ⟨fd, ps, hm, hk, hb, hgl, F⟩ := ok
      obtain ⟨pk, hks⟩ := i2.kw (W := W) cx hN h5
      have hb' : ∀ (s : Shared) (us ws : List Value), X.K.In s.heap → us.length = n → ws.length = ks.length → BindsTo s fd ⟨us, ks.zip ws⟩ (ps.zip (gl.map fun i => (us ++ ws).getD i .none)) := by rw [cx.K]; exact hb
      have fin : ∀ {σ : L2.St} {ρ1 : Rh} {H1 : Hp} {S1 : Store} {Q : VK} {ds es : List D} {vs ws : List V}, Sim g.B ρ1 S1 H1 → RepL g.B ρ1 H1 ds vs → RepL g.B ρ1 H1 es ws → Go g.B ρ1 H1 (M.bind (M.opt ((gl.map fun i => (ds ++ es)[i]?).mapM id)) (fun zs => f zs) S1) (KV1 g.B Q) (KX g.B W σ) →
          spOf g.B f ps.length (gl.map fun i => (vs ++ ws).getD i .non) H1 Q (WE W σ) := by
        intro σ ρ1 H1 S1 Q ds es vs ws s1 r1 r2 gg
        obtain ⟨zs, ez, g2⟩ := go_opt (Go.bindM gg)
        exact ⟨ρ1, S1, zs, s1, getD_rep (r1.append r2) gl zs ez, by rw [List.length_map]; exact hgl, Go.now s1 g2⟩
      cases ys with
      | nil =>
        have hes := a_nil h4
        subst hes
        have hn0 : n = 0 := hn.symm
        subst hn0
        refine PE.imp (pe_kall0 (E := WE W) (gg := fun us ws => gl.map fun i => (us ++ ws).getD i .none) (gV := fun vs ws => gl.map fun i => (vs ++ ws).getD i .non) (ctx_fn cx F) cx.room hg (by rw [cx.mg]; exact hm) (by rw [cx.K]; exact hk) hb' (fun r1 r2 => getD_map (Vals.append r1 r2) gl) (ctx_pass cx) pk hks hd) fun σ H Q ⟨ρ, env, S, hs, s, gg⟩ => ?_
        have gg : Go g.B ρ H (M.bind (evA kes env) (fun ys => if ([] : List D).length = 0 ∧ ys.length = ks.length then M.bind (M.opt ((gl.map fun i => ([] ++ ys)[i]?).mapM id)) fun zs => f zs else M.fail) S) (KV1 g.B Q) (KX g.B W σ) := gg
        refine subA hs s gg fun ds vs ρ1 S1 H1 e1 hs1 s1 rl g1 => ?_
        by_cases c : ([] : List D).length = 0 ∧ ds.length = ks.length
        · rw [if_pos c] at g1
          exact ⟨by rw [← rl.len]; exact c.2, fin s1 .nil rl g1⟩
        · rw [if_neg c] at g1
          exact g1.elim
      | cons y ys =>
        obtain ⟨pa, ns⟩ := i1.a (W := W) cx hN h4
        refine PE.imp (pe_kall1 (E := WE W) (gg := fun us ws => gl.map fun i => (us ++ ws).getD i .none) (gV := fun vs ws => gl.map fun i => (vs ++ ws).getD i .non) (ctx_fn cx F) cx.room hg (by rw [cx.mg]; exact hm) (by rw [cx.K]; exact hk) hb' (fun r1 r2 => getD_map (Vals.append r1 r2) gl) (ctx_pass cx) ns pa pk hks hd) fun σ H Q ⟨ρ, env, S, hs, s, gg⟩ => ?_
        refine subA hs s gg fun ds vs ρ1 S1 H1 e1 hs1 s1 rl g1 => ?_
        refine subA hs1 s1 g1 fun ds2 vs2 ρ2 S2 H2 e2 hs2 s2 rl2 g2 => ?_
        by_cases c : ds.length = n ∧ ds2.length = ks.length
        · rw [if_pos c] at g2
          exact ⟨by rw [← rl.len]; exact c.1, by rw [← rl2.len]; exact c.2, fin s2 (rl.mono e2) rl2 g2⟩
        · rw [if_neg c] at g2
          exact g2.elim
    | _ => cases h
  | _ => cases h
theorem snd_prim (nm : Str) (f : Sem) (es : E) (G : GOk g) (ok : PrimSem g nm f) (i1 : Snd g k N es) : Snd g k N (.prim nm f es) := by
  refine Snd.mk1 (f := _) rfl rfl fun {X W e} cx hN h => ?_
  cases e with
  | Call fn ys kws p =>
    cases fn with
    | Name x q =>
      match ys, kws, h with
      | y :: ys, [], h =>
        obtain ⟨h1, h2⟩ := band (show (decide (nm = x) && (nameOk X.env.scope x && (chk N es).a X.env.scope (y :: ys))) = true from h)
        obtain ⟨h2, h3⟩ := band h2
        have : nm = x := of_decide_eq_true h1
        subst this
        obtain ⟨hg, hd, hn⟩ := gl_of h2
        obtain ⟨hb, ok⟩ := ok
        obtain ⟨v, r, hv, hk, hc, hr⟩ := ok k X W cx
        have hm : X.mg nm = none := by rw [cx.mg]; exact G.fr nm hb
        obtain ⟨pa, ns⟩ := i1.a (W := W) cx hN h3
        have ns0 := ns
        rw [List.all_cons] at ns
        obtain ⟨n1, n2⟩ := band ns
        have fin : ∀ σ H Q, tE g.B W (.prim nm f es) σ H Q → tCB r (tA g.B W es) σ H Q := fun σ H Q ⟨ρ, env, S, hs, s, gg⟩ =>
          subA hs s gg fun ds vs ρ1 S1 H1 e1 hs1 s1 rl g1 => hr ρ1 S1 H1 ds vs Q _ s1 rl g1
        rcases hk with ⟨id, rfl⟩ | ⟨T, rfl⟩
        · exact PE.imp (pe_callB hc hg hm hv pa hn hd (star_cons n1) (star_any n2)) fin
        · exact PE.imp (pe_callTy hc hg hm hv pa hn hd (star_cons n1) (star_any n2)) fin
      | [], _, h => cases h
      | _ :: _, _ :: _, h => cases h
    | _ => cases h
  | _ => cases h
/-! ### 18. methods -/
theorem isTy_ok {T : String} {d : D} {v : V} {K : PySem.W.Frag} {S2 : Store} (hT : T = "list" ∨ T = "dict" ∨ T = "str") (s : Sim B ρ S H) (r : Rep B ρ H d v) (h : isTy T d S = .ok () S2) : S2 = S ∧ tyV K T v H := by
  unfold isTy at h
  cases d with
  | str z =>
    cases r
    have h : (if "str" = T then .ok () S else .stuck : Out Unit) = .ok () S2 := h
    split at h
    · rename_i c; cases h; exact ⟨rfl, c.symm⟩
    · cases h
  | lst xs =>
    obtain ⟨a, vs, rfl, n1, q1, r1⟩ := rep_lst r
    have h : (if "list" = T then .ok () S else .stuck : Out Unit) = .ok () S2 := h
    split at h
    · rename_i c; cases h; exact ⟨rfl, .inl ⟨c.symm, vs, SqL.of q1⟩⟩
    · cases h
  | scr ns =>
    cases r with
    | @scr a o ns n q =>
      have h : (if "list" = T then .ok () S else .stuck : Out Unit) = .ok () S2 := h
      split at h
      · rename_i c; cases h; exact ⟨rfl, .inl ⟨c.symm, _, SqL.of2 (.inr ⟨o, q⟩)⟩⟩
      · cases h
  | cell n =>
    cases r with
    | @cell n a ha =>
      obtain ⟨cv, e, cr⟩ := s.get ha
      cases cv with
      | lst xs =>
        obtain ⟨vs, q, rl⟩ := cell_lst cr
        simp only [tyD, e] at h
        split at h
        · rename_i c; cases h; exact ⟨rfl, .inl ⟨c.symm, vs, SqL.of q⟩⟩
        · cases h
      | dic lk kvs =>
        cases lk with
        | true =>
          simp only [tyD, e] at h
          split at h
          · cases h
          · cases h
        | false =>
          simp only [tyD, e] at h
          cases cr with
          | dic q kr =>
            split at h
            · rename_i c; cases h; exact ⟨rfl, .inr (.inr (.inl ⟨c.symm, .inl ⟨_, q⟩⟩))⟩
            · cases h
      | ins c fs =>
        simp only [tyD, e] at h
        cases h
  | tup xs =>
    have h : (if "tuple" = T then .ok () S else .stuck : Out Unit) = .ok () S2 := h
    split at h
    · rename_i c; subst c; rcases hT with c | c | c <;> simp at c
    · cases h
  | int xs =>
    have h : (if "int" = T then .ok () S else .stuck : Out Unit) = .ok () S2 := h
    split at h
    · rename_i c; subst c; rcases hT with c | c | c <;> simp at c
    · cases h
  | bl xs =>
    have h : (if "bool" = T then .ok () S else .stuck : Out Unit) = .ok () S2 := h
    split at h
    · rename_i c; subst c; rcases hT with c | c | c <;> simp at c
    · cases h
  | non =>
    have h : (if "NoneType" = T then .ok () S else .stuck : Out Unit) = .ok () S2 := h
    split at h
    · rename_i c; subst c; rcases hT with c | c | c <;> simp at c
    · cases h
  | ins c ns ds => cases h
theorem isTy_noexc {T : String} {d : D} {x : Exn} {S2 : Store} (h : isTy T d S = .exc x S2) : False := by
  unfold isTy at h
  repeat' split at h
  all_goals cases h
theorem snd_meth (nm : Str) (T : String) (f : D → Sem) (o es : E) (ok : MethSem g nm T f) (i0 : Snd g k N o) (i1 : Snd g k N es) : Snd g k N (.meth nm T f o es) := by
  refine Snd.mk1 (f := _) rfl rfl fun {X W e} cx hN h => ?_
  cases e with
  | Call fn ys kws cp =>
    cases fn with
    | Attribute o' x ap =>
      match kws, h with
      | [], h =>
        obtain ⟨h1, h2⟩ := band (show (decide (nm = x) && (plainB o' && ((ap.endLine == cp.line) && (decide (ys.length < 29) && ((chk N o).v X.env.scope o' && (chk N es).a X.env.scope ys))))) = true from h)
        obtain ⟨g2, h3'⟩ := band h2
        obtain ⟨g3, h4'⟩ := band h3'
        obtain ⟨g4, h5'⟩ := band h4'
        obtain ⟨g5, h6⟩ := band h5'
        have : nm = x := of_decide_eq_true h1
        subst this
        obtain ⟨hT, ok⟩ := ok
        obtain ⟨id, r, pa, slot, hty, hm, hr⟩ := ok k X W cx
        obtain ⟨pas, ns⟩ := i1.a (W := W) cx hN h6
        have step : ∀ {σ : L2.St} {H : Hp} {Q : VK}, tE g.B W (.meth nm T f o es) σ H Q → tE g.B W o σ H fun x H1 => tyV X.K T x H1 ∧ tA g.B W es σ H1 fun xs H2 => r x xs H2 Q := by
          intro σ H Q ⟨ρ, env, S, hs, s, gg⟩
          refine subE hs s gg fun d v ρ1 S1 H1 e1 hs1 s1 r1 g1 => ?_
          have gb := Go.bindM g1
          cases e : isTy T d S1 with
          | stuck => rw [e] at gb; exact gb.elim
          | exc x S2 => exact (isTy_noexc e).elim
          | ok u S2 =>
            rw [e] at gb
            obtain ⟨rfl, ty⟩ := isTy_ok (K := X.K) hT s1 r1 e
            refine ⟨ty, ?_⟩
            refine subA hs1 s1 (Go.now s1 gb) fun ds vs ρ2 S3 H2 e2 hs2 s2 rl g3 => ?_
            exact hr ρ2 S3 H2 d v ds vs Q _ s2 (r1.mono e2) rl g3
        cases ys with
        | nil =>
          have hes := a_nil h6
          subst hes
          refine PE.imp (pe_bm0 pa slot hty hm (i0.v cx hN g5) (base_plain g2) g3) fun σ H Q z => ?_
          obtain ⟨ρ, env, S, hs, s, gg⟩ := step z
          refine ⟨ρ, env, S, hs, s, Go.imp gg (fun d ρ1 S1 H1 e1 s1 q v rv => ?_) fun _ _ _ _ _ _ h => h⟩
          obtain ⟨q1, ρ2, env2, S2, hs2, s2, q2⟩ := q v rv
          exact ⟨q1, Go.now s2 q2 _ .nil⟩
        | cons y ys =>
          have ns0 := ns
          rw [List.all_cons] at ns
          obtain ⟨n1, n2⟩ := band ns
          refine PE.imp (pe_bm pa slot hty hm (i0.v cx hN g5) pas (base_plain g2) ?_ g3 (star_cons n1) (star_any n2)) fun σ H Q z => step z
          rw [star_few ns0]
          have l : (y :: ys).length < 29 := of_decide_eq_true g4
          have l2 : (y :: ys).length + ([] : List Keyword).length + 0 < 30 := by
            show (y :: ys).length + 0 + 0 < 30
            omega
          show (true && true && decide ((y :: ys).length + ([] : List Keyword).length + 0 < 30)) = true
          rw [decide_eq_true l2] <;> rfl
      | _ :: _, h => cases h
    | _ => cases h
  | _ => cases h
end Py
-- PyM
namespace Py
open PySem PySem.Spec PyProof.Rows L2
variable {g : Gx} {k : Nat} {N : List Str}
/-! ### 19. isinstance -/
theorem fr_b (G : GOk g) {n : String} (h : n ∈ clB) : g.mg (PySem.Str.ofString n) = none ∧ bootBuiltins (PySem.Str.ofString n) = some (.type n) := by
  have h' : n = "bool" ∨ n = "int" ∨ n = "str" ∨ n = "tuple" ∨ n = "list" ∨ n = "dict" := by simpa [clB] using h
  rcases h' with rfl | rfl | rfl | rfl | rfl | rfl
  · exact ⟨G.fr _ (by decide +kernel), boot_bool⟩
  · exact ⟨G.fr _ (by decide +kernel), boot_int⟩
  · exact ⟨G.fr _ (by decide +kernel), boot_str⟩
  · exact ⟨G.fr _ (by decide +kernel), boot_tuple⟩
  · exact ⟨G.fr _ (by decide +kernel), boot_list⟩
  · exact ⟨G.fr _ (by decide +kernel), boot_dict⟩
theorem pe_cl {W : WX} (G : GOk g) (cx : Ctx g k X W) {c : Cl} {x : Str} {p : Pos} (hc : clOk g c) (hn : clName c = x) (ho : nameOk X.env.scope x = true) : PE X (.Name x p) (tC (clVV g.B.K c)) := by
  obtain ⟨hg, hd, hnn⟩ := gl_of ho
  cases c with
  | b n =>
    subst hn
    obtain ⟨h1, h2⟩ := fr_b G hc
    exact pe_bltn hg (by rw [cx.mg]; exact h1) h2 (show RelV (.ty n) (.type n) from rfl) hnn hd
  | c n =>
    have : n = x := hn
    subst this
    exact pe_glob hg (by rw [cx.mg]; exact (G.cl n hc).1) (show RelV (.ref _) (.ref _) from rfl) hd
theorem clsv (K : PySem.W.Frag) (c : Cl) : ClsV (clVV K c) (clV K c) := by
  cases c with
  | b n => exact .ty n
  | c n => exact .own _
theorem clsvs (K : PySem.W.Frag) : ∀ cs : List Cl, Paired ClsV (cs.map (clVV K)) (cs.map (clV K))
  | [] => .nil
  | c :: cs => .cons (clsv K c) (clsvs K cs)
/-- the type of data, as the model has it -/
theorem ty_ok (G : GOk g) {d : D} {v : V} {t : Cl} (s : Sim g.B ρ S H) (r : Rep g.B ρ H d v) (h : tyD S d = some t) : TyX g.B.K H v (clV g.B.K t) ∧ t ∈ tyB.map Cl.b ++ g.B.cls.map Cl.c := by
  cases r with
  | non => cases h; exact ⟨.base .non, by simp [tyB]⟩
  | bl b => cases h; exact ⟨.base (.bl b), by simp [tyB]⟩
  | int b => cases h; exact ⟨.base (.int b), by simp [tyB]⟩
  | str b => cases h; exact ⟨.base (.str b), by simp [tyB]⟩
  | tup n q rl => cases h; exact ⟨.base (.tup q), by simp [tyB]⟩
  | lst n q rl => cases h; exact ⟨.base (.lst q), by simp [tyB]⟩
  | scr n q => cases h; exact ⟨.base (.frz q), by simp [tyB]⟩
  | @ins a dx c ns ds vs z n q l rl =>
    cases h
    obtain ⟨_, ci⟩ := G.cl c z
    exact ⟨.base (.ins q ci.cls ci.ha ci.hn ci.htk ci.hm), by simp [z]⟩
  | @cell n a ha =>
    obtain ⟨cv, e, cr⟩ := s.get ha
    cases cv with
    | lst xs =>
      obtain ⟨vs, q, rl⟩ := cell_lst cr
      simp only [tyD, e] at h
      cases h
      exact ⟨.base (.lst q), by simp [tyB]⟩
    | dic lk kvs =>
      simp only [tyD, e] at h
      cases h
      cases cr with
      | dic q kr => exact ⟨.base (.dK q), by simp [tyB]⟩
      | lck q kr => exact ⟨.fDict q, by simp [tyB]⟩
    | ins c fs =>
      simp only [tyD, e] at h
      cases h
      cases cr with
      | ins z q r =>
        obtain ⟨_, ci⟩ := G.cl c z
        exact ⟨.base (.ins q ci.cls ci.ha ci.hn ci.htk ci.hm), by simp [z]⟩
theorem clOk_mem {c : Cl} (h : clOk g c) : c ∈ clB.map Cl.b ++ g.B.cls.map Cl.c := by
  cases c with
  | b n => exact List.mem_append_left _ (List.mem_map_of_mem h)
  | c n => exact List.mem_append_right _ (List.mem_map_of_mem h)
theorem kit_any (G : GOk g) {t : Cl} (ht : t ∈ tyB.map Cl.b ++ g.B.cls.map Cl.c) : ∀ cs : List Cl, (∀ c ∈ cs, clOk g c) → PySem.W.kitAny g.B.K (clV g.B.K t) (cs.map (clV g.B.K)) = some (cs.any (isC t))
  | [], _ => rfl
  | c :: cs, h => by
    have h1 := G.kit t ht c (clOk_mem (h c List.mem_cons_self))
    have h2 := kit_any G ht cs fun c hc => h c (List.mem_cons_of_mem _ hc)
    rw [List.map_cons]
    refine kitAny_cons h1 (fun hb => ?_) (fun hb => ?_)
    · rw [h2, List.any_cons, hb] <;> rfl
    · rw [List.any_cons, hb] <;> rfl
def clT (K : PySem.W.Frag) (cs : List Cl) : TA := fun σ H Q => Q (cs.map (clVV K)) H
theorem pa_cls {W : WX} (G : GOk g) (cx : Ctx g k X W) : ∀ (cs : List Cl) (es : List PySem.Expr), (∀ c ∈ cs, clOk g c) → clsOk X.env.scope cs es = true → PA X es (clT g.B.K cs) ∧ cs.length = es.length
  | [], [], _, _ => ⟨PA.imp pa_nil fun _ _ _ q => q, rfl⟩
  | [], _ :: _, _, h => by cases h
  | _ :: _, [], _, h => by cases h
  | c :: cs, e :: es, hk, h => by
    cases e with
    | Name x p =>
      obtain ⟨h1, h2⟩ := band (show (decide (clName c = x) && (nameOk X.env.scope x && clsOk X.env.scope cs es)) = true from h)
      obtain ⟨h2, h3⟩ := band h2
      obtain ⟨p2, l2⟩ := pa_cls G cx cs es (fun c hc => hk c (List.mem_cons_of_mem _ hc)) h3
      exact ⟨PA.imp (pa_cons (pe_cl G cx (hk c List.mem_cons_self) (of_decide_eq_true h1) h2) p2) fun _ _ _ q => q, by simp [l2]⟩
    | _ => cases h
theorem snd_isi (a : E) (cs : List Cl) (one : Bool) (G : GOk g) (ok : ∀ c ∈ cs, clOk g c) (i1 : Snd g k N a) : Snd g k N (.isi a cs one) := by
  refine Snd.mk1 (f := _) rfl rfl fun {X W e} cx hN h => ?_
  cases e with
  | Call fn ys kws cp =>
    cases fn with
    | Name x q =>
      match ys, kws, h with
      | [a', c], [], h =>
        obtain ⟨h1, h2⟩ := band (show (decide (("isinstance" : Str) = x) && (nameOk X.env.scope x && (notStar a' && ((chk N a).v X.env.scope a' && isiC one X.env.scope cs c)))) = true from h)
        obtain ⟨g2, h3'⟩ := band h2
        obtain ⟨g3, h4'⟩ := band h3'
        obtain ⟨g4, g5⟩ := band h4'
        have : ("isinstance" : Str) = x := of_decide_eq_true h1
        subst this
        obtain ⟨hg, hd, hn⟩ := gl_of g2
        have hm : X.mg "isinstance" = none := by rw [cx.mg]; exact G.fr _ (by decide +kernel)
        have hv : bootBuiltins "isinstance" = some (.builtin "isinstance") := by decide +kernel
        cases c with
        | Name y q =>
          obtain ⟨_, g6⟩ := band (show (one && clsOk X.env.scope cs [.Name y q]) = true from g5)
          obtain ⟨pc, lc⟩ := pa_cls G cx cs [.Name y q] ok g6
          refine PE.imp (pe_callB call_isi hg hm hv (pa_cons (i1.v cx hN g4) pc (star_cons g3)) hn hd (star_cons g3) rfl) fun σ H Q ⟨ρ, env, S, hs, s, gg⟩ => ?_
          refine subE hs s gg fun d v ρ1 S1 H1 e1 hs1 s1 r1 g1 => ?_
          match cs, lc with
          | [c], _ =>
            obtain ⟨d2, e2, g2⟩ := go_opt (show Go g.B ρ1 H1 (M.opt ((isiD S1 d [c]).map .bl) S1) (KV1 g.B Q) (KX g.B W σ) from g1)
            unfold isiD at e2
            cases et : tyD S1 d with
            | none => rw [et] at e2; cases e2
            | some t =>
              rw [et] at e2
              have e2 : D.bl ([c].any (isC t)) = d2 := Option.some.inj e2
              subst e2
              obtain ⟨tx, tm⟩ := ty_ok G s1 r1 et
              refine ⟨v, clVV g.B.K c, clV g.B.K t, clV g.B.K c, isC t c, rfl, clsv _ c, by rw [cx.K]; exact tx, by rw [cx.K]; exact G.kit t tm c (clOk_mem (ok c List.mem_cons_self)), ?_⟩
              have := nowV s1 g2 (.bl _)
              simpa using this
          | [], lc => cases lc
          | _ :: _ :: _, lc => cases lc
        | Tuple es j q =>
          obtain ⟨_, g6'⟩ := band (show (!one && (fits cs.length && clsOk X.env.scope cs es)) = true from g5)
          obtain ⟨g7, g6⟩ := band g6'
          obtain ⟨pc, lc⟩ := pa_cls G cx cs es ok g6
          refine PE.imp (pe_callB call_isiT hg hm hv (pa_cons (i1.v cx hN g4) (pa_cons (pe_tup pc) pa_nil) (star_cons g3)) hn hd (star_cons g3) rfl) fun σ H Q ⟨ρ, env, S, hs, s, gg⟩ => ?_
          refine subE hs s gg fun d v ρ1 S1 H1 e1 hs1 s1 r1 g1 => ?_
          obtain ⟨d2, e2, g2⟩ := go_opt (show Go g.B ρ1 H1 (M.opt ((isiD S1 d cs).map .bl) S1) (KV1 g.B Q) (KX g.B W σ) from g1)
          unfold isiD at e2
          cases et : tyD S1 d with
          | none => rw [et] at e2; cases e2
          | some t =>
            rw [et] at e2
            have e2 : D.bl (cs.any (isC t)) = d2 := Option.some.inj e2
            subst e2
            refine ⟨?_, fun p hp => ?_⟩
            · rw [List.length_map]; exact fits_le g7
            · have ex := Ext.alloc s1 (.tup (cs.map (clVV g.B.K))) hp
              have sx := s1.alloc (.tup (cs.map (clVV g.B.K))) hp
              obtain ⟨tx, tm⟩ := ty_ok G sx (r1.mono ex) et
              exact ⟨v, p, cs.map (clVV g.B.K), clV g.B.K t, cs.map (clV g.B.K), cs.any (isC t), rfl, upd_same, clsvs _ cs, by rw [cx.K]; exact tx, by rw [cx.K]; exact kit_any G tm cs ok, g2 _ _ ex sx _ (.bl _)⟩
        | _ => cases g5
      | [], _, h => cases h
      | [_], _, h => cases h
      | _ :: _ :: _ :: _, _, h => cases h
      | [_, _], _ :: _, h => cases h
    | _ => cases h
  | _ => cases h
/-! ### 20. fields -/
theorem zip_look {f : Str} {d : D} : ∀ {ns : List Str} {ds : List D} {vs : List V}, RepL B ρ H ds vs → (ns.zip ds).lookup f = some d → ∃ v, (ns.zip vs).lookup f = some v ∧ Rep B ρ H d v
  | [], _, _, _, h => by cases h
  | _ :: _, _, _, .nil, h => by cases h
  | n :: ns, _, _, .cons r t, h => by
    rw [List.zip_cons_cons, List.lookup_cons] at h
    rw [List.zip_cons_cons, List.lookup_cons]
    cases e : f == n with
    | true =>
      rw [e] at h
      cases h
      exact ⟨_, rfl, r⟩
    | false =>
      rw [e] at h
      exact zip_look t h
theorem f_look {f : Str} {d : D} : ∀ {fs : List (Str × D)} {ws : List (Str × V)}, FRep B ρ H fs ws → fs.lookup f = some d → ∃ v, ws.lookup f = some v ∧ Rep B ρ H d v
  | _, _, .nil, h => by cases h
  | (n, x) :: fs, (m, y) :: ws, .cons r t, h => by
    obtain ⟨rfl, r2⟩ := r
    rw [List.lookup_cons] at h
    rw [List.lookup_cons]
    cases e : f == n with
    | true =>
      rw [e] at h
      cases h
      exact ⟨_, rfl, r2⟩
    | false =>
      rw [e] at h
      obtain ⟨v, e2, r3⟩ := f_look t h
      exact ⟨v, e2, r3⟩
theorem snd_attr (o : E) (f : Str) (G : GOk g) (ok : ∀ c ∈ g.B.cls, NoAttr g.B.K (He.ga g.B.K c) f) (i1 : Snd g k N o) : Snd g k N (.attr o f) := by
  refine Snd.mk1 (f := _) rfl rfl fun {X W e} cx hN h => ?_
  cases e with
  | Attribute o' x p =>
    obtain ⟨h1, h2⟩ := band (show (decide (f = x) && (plainB o' && (chk N o).v X.env.scope o')) = true from h)
    obtain ⟨g2, g3⟩ := band h2
    have : f = x := of_decide_eq_true h1
    subst this
    refine PE.imp (pe_fld (i1.v cx hN g3) (base_plain g2)) fun σ H Q ⟨ρ, env, S, hs, s, gg⟩ => ?_
    refine subE hs s gg fun d v ρ1 S1 H1 e1 hs1 s1 r1 g1 => ?_
    cases r1 with
    | @ins a dx c ns ds vs z n q l rl =>
      obtain ⟨d2, e2, g2⟩ := go_opt (show Go g.B ρ1 H1 (M.opt ((ns.zip ds).lookup f) S1) (KV1 g.B Q) (KX g.B W σ) from g1)
      obtain ⟨u, e3, r3⟩ := zip_look rl e2
      exact ⟨a, _, dx, _, u, rfl, q, by rw [cx.K]; exact (G.cl c z).2.cls, by rw [cx.K]; exact ok c z, e3, nowV s1 g2 r3⟩
    | @cell n a ha =>
      obtain ⟨cv, e0, cr⟩ := s1.get ha
      have g1' : Go g.B ρ1 H1 (match S1[n]? with
        | some (.ins _ fs) => M.opt (fs.lookup f) S1
        | _ => .stuck : Out D) (KV1 g.B Q) (KX g.B W σ) := g1
      rw [e0] at g1'
      cases cr with
      | @ins a dx c fs ws z q r =>
        obtain ⟨d2, e2, g2⟩ := go_opt (show Go g.B ρ1 H1 (M.opt (fs.lookup f) S1) (KV1 g.B Q) (KX g.B W σ) from g1')
        obtain ⟨u, e3, r3⟩ := f_look r e2
        exact ⟨a, _, dx, _, u, rfl, q, by rw [cx.K]; exact (G.cl c z).2.cls, by rw [cx.K]; exact ok c z, e3, nowV s1 g2 r3⟩
      | lst _ _ => exact g1'.elim
      | dic _ _ => exact g1'.elim
      | lck _ _ => exact g1'.elim
    | _ => exact g1.elim
  | _ => cases h
/-! ### 21. ranges, comprehensions -/
theorem int_go {α : Type} {f : Int → M α} {kk : α → Rh → Store → Hp → Prop} {kx : Exn → Rh → Store → Hp → Prop} {d : D} {v : V} (r : Rep B ρ H d v) (gg : Go B ρ H (M.bind (intOf d) f S) kk kx) : ∃ i, d = .int i ∧ v = .int i ∧ Go B ρ H (f i S) kk kx := by
  cases r with
  | int i => exact ⟨i, rfl, rfl, gg⟩
  | _ => exact gg.elim
theorem rng_go {lo hi : Int} {W : WX} {R : It → Hp → Prop} (s : Sim B ρ S H) (gg : Go B ρ H (M.bind (rngI lo hi) srcOf S) (fun src ρ' S' H' => ∀ J, ItOk B ρ' H' J src → R J H') (KX B W σ)) :
    (-(2 ^ 62) ≤ lo ∧ lo < 2 ^ 62 ∧ -(2 ^ 62) ≤ hi ∧ hi < 2 ^ 62) ∧ R (Itr lo (hi - lo).toNat) H := by
  unfold rngI at gg
  by_cases c : (decide (-(2 ^ 62) ≤ lo) && (decide (lo < 2 ^ 62) && (decide (-(2 ^ 62) ≤ hi) && decide (hi < 2 ^ 62)))) = true
  · rw [if_pos c] at gg
    obtain ⟨c1, c2⟩ := band c
    obtain ⟨c2, c3⟩ := band c2
    obtain ⟨c3, c4⟩ := band c3
    exact ⟨⟨of_decide_eq_true c1, of_decide_eq_true c2, of_decide_eq_true c3, of_decide_eq_true c4⟩, Go.now s gg _ it_rng⟩
  · rw [if_neg c] at gg
    exact gg.elim
theorem i_only {c : E} {f : Scope → PySem.Expr → PySem.Expr → Bool} (hc : chk N c = { Rc.no with i := f }) (hi : ∀ {X : Cx} {W : WX} {tg e : PySem.Expr}, Ctx g k X W → X.N = N → f X.env.scope tg e = true → PI X tg e (tI g.B W c) ∧ noSet e = true) : Snd g k N c where
  v := fun cx n h => by rw [hc] at h; cases h
  t := fun cx n h => by rw [hc] at h; cases h
  a := fun cx n h => by rw [hc] at h; cases h
  o := fun cx n h => by rw [hc] at h; cases h
  i := fun cx n h => by rw [hc] at h; exact hi cx n h
  kw := fun cx n h => by rw [hc] at h; cases h
  an := fun cx n h => by rw [hc] at h; cases h
  on := fun cx n h => by rw [hc] at h; cases h
  ant := fun cx n h => by rw [hc] at h; cases h
  ont := fun cx n h => by rw [hc] at h; cases h
  ifs := fun cx n h => by rw [hc] at h; cases h
  prs := fun cx n h => by rw [hc] at h; cases h
theorem snd_rng1 (a : E) (G : GOk g) (i1 : Snd g k N a) : Snd g k N (.rng1 a) := by
  refine i_only (f := _) rfl fun {X W tg e} cx hN h => ?_
  cases e with
  | Call fn ys kws cp =>
    cases fn with
    | Name x q =>
      match ys, kws, h with
      | [a'], [], h =>
        obtain ⟨h1, h2⟩ := band (show (decide (("range" : Str) = x) && (nameOk X.env.scope x && (notStar a' && (chk N a).v X.env.scope a'))) = true from h)
        obtain ⟨g2, h3'⟩ := band h2
        obtain ⟨g3, g4⟩ := band h3'
        have : ("range" : Str) = x := of_decide_eq_true h1
        subst this
        obtain ⟨hg, hd, hn⟩ := gl_of g2
        have hm : X.mg "range" = none := by rw [cx.mg]; exact G.fr _ (by decide +kernel)
        refine ⟨PI.imp (pi_range1 hg hm (pa_cons (i1.v cx hN g4) pa_nil (star_cons g3)) (by rw [star_cons g3] <;> rfl)) fun σ H R ⟨ρ, env, S, hs, s, gg⟩ => ?_, rfl⟩
        have gg : Go g.B ρ H (M.bind (M.bind (ev a env) fun x => M.bind (intOf x) fun i => rngI 0 i) srcOf S) (fun src ρ' S' H' => ∀ J, ItOk g.B ρ' H' J src → R J H') (KX g.B W σ) := gg
        rw [M.bind_assoc] at gg
        refine subE hs s gg fun d v ρ1 S1 H1 e1 hs1 s1 r1 g1 => ?_
        rw [M.bind_assoc] at g1
        obtain ⟨i, rfl, rfl, g2⟩ := int_go r1 g1
        obtain ⟨⟨_, _, b1, b2⟩, q⟩ := rng_go s1 g2
        exact ⟨i, rfl, b1, b2, by simpa using q⟩
      | [], _, h => cases h
      | _ :: _ :: _, _, h => cases h
      | [_], _ :: _, h => cases h
    | _ => cases h
  | _ => cases h
theorem snd_rng2 (a b : E) (G : GOk g) (i1 : Snd g k N a) (i2 : Snd g k N b) : Snd g k N (.rng2 a b) := by
  refine i_only (f := _) rfl fun {X W tg e} cx hN h => ?_
  cases e with
  | Call fn ys kws cp =>
    cases fn with
    | Name x q =>
      match ys, kws, h with
      | [a', b'], [], h =>
        obtain ⟨h1, h2⟩ := band (show (decide (("range" : Str) = x) && (nameOk X.env.scope x && (notStar a' && (notStar b' && ((chk N a).v X.env.scope a' && (chk N b).v X.env.scope b'))))) = true from h)
        obtain ⟨g2, h3'⟩ := band h2
        obtain ⟨g3, h4'⟩ := band h3'
        obtain ⟨g4, h5'⟩ := band h4'
        obtain ⟨g5, g6⟩ := band h5'
        have : ("range" : Str) = x := of_decide_eq_true h1
        subst this
        obtain ⟨hg, hd, hn⟩ := gl_of g2
        have hm : X.mg "range" = none := by rw [cx.mg]; exact G.fr _ (by decide +kernel)
        refine ⟨PI.imp (pi_range2 hg hm (pa_cons (i1.v cx hN g5) (pa_cons (i2.v cx hN g6) pa_nil (star_cons g4)) (star_cons g3)) (by rw [star_cons g3, star_cons g4] <;> rfl) (by rw [star_cons g4] <;> rfl)) fun σ H R ⟨ρ, env, S, hs, s, gg⟩ => ?_, rfl⟩
        have gg : Go g.B ρ H (M.bind (M.bind (ev a env) fun x => M.bind (ev b env) fun y => M.bind (intOf x) fun i => M.bind (intOf y) fun j => rngI i j) srcOf S) (fun src ρ' S' H' => ∀ J, ItOk g.B ρ' H' J src → R J H') (KX g.B W σ) := gg
        rw [M.bind_assoc] at gg
        refine subE hs s gg fun d v ρ1 S1 H1 e1 hs1 s1 r1 g1 => ?_
        rw [M.bind_assoc] at g1
        refine subE hs1 s1 g1 fun d2 v2 ρ2 S2 H2 e2 hs2 s2 r2 g2 => ?_
        rw [M.bind_assoc] at g2
        obtain ⟨i, rfl, rfl, g3⟩ := int_go (r1.mono e2) g2
        rw [M.bind_assoc] at g3
        obtain ⟨j, rfl, rfl, g4⟩ := int_go r2 g3
        obtain ⟨bb, q⟩ := rng_go s2 g4
        exact ⟨i, j, rfl, bb, q⟩
      | [], _, h => cases h
      | [_], _, h => cases h
      | _ :: _ :: _ :: _, _, h => cases h
      | [_, _], _ :: _, h => cases h
    | _ => cases h
  | _ => cases h
end Py
-- PyIt
namespace PySem
open Sem (wp)
/-! ### enumerate of anything that begins -/
theorem py_meets_enum1 {v : Value} {o : Obj} {H : Heap → Prop} (B : Begins v o H) :
    Meets (Builtin.«enumerate.__new__» ⟨[.type "enumerate", v], []⟩) (fun _ R s => H s.heap ∧
      R (.ok (.ret (.ref (s.heap.push o).objs.size))) { s with heap := (s.heap.push o).push { cls := .type "enumerate", data := .fields #[.none, .bool false, .ref s.heap.objs.size, rawInt 0, .none, .none] } }) :=
  .of_wp fun prog w A R s h => by
    obtain ⟨hp, g, d, tk, os⟩ := s; obtain ⟨h1, h⟩ := h
    have hsub := sub_enumerate
    have q1 : ∀ {A' : Around} {E : Value → Shared → Prop} {Q : Value → Shared → Prop}, Q (.ref hp.objs.size) ⟨hp.push o, g, d, tk, os⟩ → wpAny (model prog w) A' (pyIter v) Q E ⟨hp, g, d, tk, os⟩ :=
      fun q => B.iter prog w _ _ ⟨hp, g, d, tk, os⟩ _ h1 q
    wp_walk using q1
    refine wpAny_stack_any fun st => wpAny_pure ?_
    split
    · rename_i c _ _ _ _ _
      cases (c == Value.type "enumerate")
      · wp_walk using q1
        exact ⟨_, rfl, h⟩
      · wp_walk using q1
        exact ⟨_, rfl, h⟩
    · wp_walk using q1
      exact ⟨_, rfl, h⟩
section
variable {prog : Program} {w : World} {A : Around} {E : Value → Shared → Prop} {s : Shared}
theorem py_call_enum1 {v : Value} {o : Obj} {H : Heap → Prop} {Q : Value → Shared → Prop} (B : Begins v o H) (h1 : H s.heap)
    (h : ∀ h', IsEnum h' (s.heap.objs.size + 1) s.heap.objs.size 0 .none → h'.get? s.heap.objs.size = some o → h'.objs.size = s.heap.objs.size + 2 →
      (∀ b o, s.heap.get? b = some o → h'.get? b = some o) → Q (.ref (s.heap.objs.size + 1)) { s with heap := h' }) :
    wpAny (model prog w) A (call (.type "enumerate") [v]) Q E s := by
  refine callType_new F.called_enumerate (by decide) (F.typeCall_enumerate_1 _) (F.newCall_enumerate_1 _) (fun obj => F.args_object_init_2 obj _) F.entry_enumerate_new
    (py_meets_enum1 B) ⟨h1, ?_⟩
  have hz : (s.heap.push o).objs.size = s.heap.objs.size + 1 := Heap.size_push ..
  show _ ∧ _
  rw [hz]
  have he : IsEnum ((s.heap.push o).push { cls := .type "enumerate", data := .fields #[.none, .bool false, .ref s.heap.objs.size, rawInt 0, .none, .none] }) (s.heap.objs.size + 1) s.heap.objs.size 0 .none := by
    have := Heap.get?_push_size (s.heap.push o) (o := { cls := .type "enumerate", data := .fields #[.none, .bool false, .ref s.heap.objs.size, rawInt 0, .none, .none] }) rfl
    rw [hz] at this; exact this
  refine ⟨⟨_, he, rfl⟩, h _ he (Heap.get?_push_of_some _ (Heap.get?_push_size _ B.free)) (by rw [Heap.size_push, hz]) fun b o x => Heap.get?_push_of_some _ (Heap.get?_push_of_some _ x)⟩
theorem py_enum_endT {e it l : Addr} {i : Nat} {items : Array Value} {old : Value} {Q : Option Value → Shared → Prop} (hh : A.handled = none)
    (he : IsEnum s.heap e it i old) (hit : s.heap.IsTupleIter it l i) (hl : s.heap.IsTuple l items) (hx : items[i]? = none)
    (hQ : ∀ h', Heap.ExtBut it s.heap h' → Q none { s with heap := h' }) : wpAny (model prog w) A (pyNext (.ref e)) Q E s := by
  have hT : s.TypeIs (.ref e) "enumerate" := ⟨_, he, rfl⟩
  unfold pyNext
  refine wpAny_bind (wpAny_attempt (wpAny_callSpecial?_slot (name := Str.ofString "__next__") hT F.slot_enumerate_next
    (wpAny_call_entry F.slot_enumerate_next hT F.entry_enumerate_next ?_ (F.args_enumerate_next_1 _))))
  show wpAny _ _ (field (.ref e) 2 >>= _) _ _ _
  refine wpAny_bind (wpAny_field he rfl (x := .ref it) rfl ?_)
  refine wpAny_bind (wpAny_nextOf_tuple_end hh hit hl hx fun h' x he' hx' => ?_)
  obtain ⟨o, ho, hc⟩ := hx'
  refine wpAny_bind (wpAny_isInstance (T := "StopIteration") (b := true) ⟨o, ho, hc⟩ isSubtype_stop ?_)
  exact wpAny_pure (hQ _ he')
end
end PySem
namespace L2
open PySem PySem.Spec PyProof.Rows
/-- the items of the tuple at a, each in a new pair -/
def IteT (K : PySem.W.Frag) (a : Addr) : It :=
  ⟨fun i H => ∃ (xs : List V) (x : V), SqT K H a xs ∧ xs[i]? = some x, fun i H v H' => ∃ T x, v = .ref T ∧ H T = none ∧ H' = upd H T (.tup [.int (i : Nat), x]) ∧ ∀ xs, SqT K H a xs → xs[i]? = some x, fun i H => ∃ xs : List V, SqT K H a xs ∧ xs.length ≤ i⟩
theorem turn_enumT {P : Program} {w : World} {K : PySem.W.Frag} {elts : List Expr} {kk : Nat} {tpos : Pos} (a e it : Addr) :
    Turn P w K (.Tuple elts kk tpos) (IteT K a) [e, it] e (fun i h => (∃ old, IsEnum h e it ((i : Nat) : Int) old) ∧ h.IsTupleIter it a i ∧ e ≠ it ∧ a ≠ it) where
  mem := by simp
  obj := fun i h st b hb => by
    obtain ⟨⟨old, he⟩, ⟨o, ho, hc, hd⟩, _⟩ := st
    have e' : b = e ∨ b = it := by simpa using hb
    rcases e' with z | z
    · rw [z]; exact ⟨_, he, fun v q => nomatch q⟩
    · rw [z]; exact ⟨o, ho, fun v q => by rw [hd] at q; cases q⟩
  keep := fun i h h' st k => let ⟨⟨old, he⟩, hi, hne⟩ := st; ⟨⟨old, k e (by simp) _ he⟩, hi.at fun o q => k it (by simp) o q, hne⟩
  item := by
    intro X hP hw hK hc i pins s σ H E I hf st hg
    subst hP hw hK
    obtain ⟨⟨old, he⟩, hit, hne, hna⟩ := st
    obtain ⟨xs, x, hq, hx⟩ := hg
    obtain ⟨its, rv, p, hz⟩ := I.tuple hq
    obtain ⟨u, hu, ru⟩ := rv.get hx
    have hel : e < s.heap.objs.size := Heap.lt_size he
    have hil : it < s.heap.objs.size := by obtain ⟨_, q, _⟩ := hit; exact Heap.lt_size q
    have ht : s.heap.IsTuple a its.toArray := p
    have hea : e ≠ a := fun z => by
      obtain ⟨o, ho, hc', _⟩ := id ht
      have he' : s.heap.get? e = _ := he
      rw [z, ho] at he'
      have := congrArg (Option.map Obj.cls) he'
      have h3 : o.cls = .type "enumerate" := Option.some.inj this
      rw [show o.cls = .type "tuple" from hc'] at h3
      exact absurd h3 (by decide)
    have D := Draws.tuple (prog := X.prog) (w := X.w) (A := X.A.in1) (show X.A.in1.handled = none from I.ok.hd hc) it a hna its.toArray
    have hl : i < its.toArray.size := by
      rw [List.size_toArray]
      exact (List.getElem?_eq_some_iff.mp hu).1
    refine wpAny_pyNext_enum_itemD D he ⟨hit, ht⟩ hl hne (by simp [hne, hea]) fun x' h' tk hP ho st' hT hsz hk => ?_
    have hP : its.toArray[i]? = some x' := hP
    have ex : x' = u := by
      rw [List.getElem?_toArray, hu] at hP
      exact (Option.some.inj hP).symm
    subst ex
    obtain ⟨hit', ht'⟩ := st'
    refine ⟨_, rfl, wpAny_letOwnedTupleGo_enum (s := { s with heap := h', toks := tk + 1 }) ho fun h'' he' sb => ?_⟩
    have hT2 : h''.get? s.heap.objs.size = some { cls := .type "tuple", data := .seq #[.int i tk, x'] } := (sb.2 _ (Nat.ne_of_gt hel)).trans hT
    have new : ObjOk X.prog X.w (upd H s.heap.objs.size (.tup [.int (i : Nat), x])) h'' s.heap.objs.size (.tup [.int (i : Nat), x]) :=
      ⟨by show 2 ≤ sizeLine; decide, [.int i tk, x'], .cons ⟨_, rfl⟩ (.cons ru .nil), ⟨_, hT2, rfl, _, rfl⟩⟩
    have I1 : Inv X pins σ (upd H s.heap.objs.size (.tup [.int (i : Nat), x])) { s with heap := h'', toks := tk + 1 } :=
      I.turnedNew (ch := [e, it]) (fun b ob hb q => (sb.2 b (fun z => hb (by simp [z]))).trans (hk b ob (fun z => hb (by simp [z])) (fun z => hb (by simp [z])) q)) hf (Nat.le_refl _) new
    refine ⟨.ref s.heap.objs.size, _, I1, rfl, ⟨_, x, rfl, I.hok.fresh (Nat.le_refl _), rfl, fun ys hy => by rw [I.tuple_inj hy hq]; exact hx⟩, ⟨⟨x', ?_⟩, hit'.at fun o q => (sb.2 it (Ne.symm hne)).trans q, hne, hna⟩, fun b hb => ?_⟩
    · have e1 : ((i + 1 : Nat) : Int) = (i : Int) + 1 := by omega
      rw [e1]; exact he'
    · have hb' : b < s.heap.objs.size := by
        have e' : b = e ∨ b = it := by simpa using hb
        rcases e' with z | z
        · rw [z]; exact hel
        · rw [z]; exact hil
      rw [upd_ne (Nat.ne_of_lt hb')]
      exact (hf b hb).1
  done := by
    intro X hP hw hK hc i pins s σ H E I hf st hg
    subst hP hw hK
    obtain ⟨⟨old, he⟩, hit, hne, hna⟩ := st
    obtain ⟨xs, hq, hx⟩ := hg
    obtain ⟨its, rv, p, hz⟩ := I.tuple hq
    obtain ⟨f0, f1, f2, f3, f4, f5⟩ := hf it (by simp)
    have hl := rv.length
    have ht : s.heap.IsTuple a its.toArray := p
    exact py_enum_endT (I.ok.hd hc) he hit ht (by simp; omega) fun h' eb => ⟨rfl, I.turned (t' := s.toks) (fun b o hb q => eb b o hb q) f0 f1 f3 f4 f5⟩
  self := fun A i s Q E st h => let ⟨⟨_, he⟩, _⟩ := st; wpAny_pyIter_enum he h
theorem turn_ie {P : Program} {w : World} {K : PySem.W.Frag} {tg : Expr} {e : Addr} : True := trivial
def iEnumT (K : PySem.W.Frag) (ta : TA) : TI := fun σ H R => ta σ H fun vs H1 => ∃ a xs, vs = [.ref a] ∧ ((SqL K H1 a xs ∧ R (Ite K a) H1) ∨ (SqT K H1 a xs ∧ R (IteT K a) H1))
theorem pi_enumA {X : Cx} {e : Expr} {ta : TA} {p pos tpos : Pos} {elts : List Expr} {kk : Nat} (hg : Gl X "enumerate") (hm : X.mg "enumerate" = none) (ha : PA X [e] ta) (hs : starEach [e] X.env = [(false, eval e X.env)] := by rfl) :
    PI X (.Tuple elts kk tpos) (.Call (.Name "enumerate" p) [e] [] pos) (iEnumT X.K ta) := by
  refine ⟨fun pins s σ H R I h => ?_⟩
  refine Call_ (ld_blt I hg hm boot_enumerate (PyProof.Rows.callWith_type1 (thn (ha.run pos pins s σ H _ I h) fun us s1 ⟨vs, H1, I1, r1, q1⟩ => ?_) hs rfl))
  obtain ⟨a, xs, ex, q⟩ := q1
  subst ex
  cases r1 with
  | cons r rr =>
    cases rr
    cases r
    have fresh : ∀ b, b ∈ [s1.heap.objs.size + 1, s1.heap.objs.size] → FpOk X pins H1 b := fun b hb => by
      have e' : b = s1.heap.objs.size + 1 ∨ b = s1.heap.objs.size := by simpa using hb
      have hle : s1.heap.objs.size ≤ b := by
        rcases e' with z | z
        · rw [z]; exact Nat.le_add_right _ _
        · rw [z]; exact Nat.le_refl _
      exact I1.fpOk hle (I1.hok.fresh hle)
    rcases q with ⟨hq, q⟩ | ⟨hq, q⟩
    · obtain ⟨its, rv, p', hz⟩ := I1.list hq
      refine call_enumerate_list p'.isList fun h' he hit hsz hk => wpAny_pyIter_enum he ?_
      have I2 : Inv X pins σ H1 { s1 with heap := h' } := I1.kept (t' := s1.toks) hk
      exact ⟨s1.heap.objs.size + 1, [s1.heap.objs.size + 1, s1.heap.objs.size], _, _, H1, rfl, I2, turn_enum a (s1.heap.objs.size + 1) s1.heap.objs.size, ⟨⟨.none, he⟩, hit, Nat.succ_ne_self _⟩, fresh, q⟩
    · obtain ⟨its, rv, p', hz⟩ := I1.tuple hq
      have ht : s1.heap.IsTuple a its.toArray := p'
      obtain ⟨o1, ho1, _⟩ := id ht
      refine py_call_enum1 (begins_tuple a its.toArray) ht fun h' he hit hsz hk => wpAny_pyIter_enum he ?_
      have I2 : Inv X pins σ H1 { s1 with heap := h' } := I1.kept (t' := s1.toks) hk
      exact ⟨s1.heap.objs.size + 1, [s1.heap.objs.size + 1, s1.heap.objs.size], _, _, H1, rfl, I2, turn_enumT a (s1.heap.objs.size + 1) s1.heap.objs.size, ⟨⟨.none, he⟩, ⟨_, hit, rfl, rfl⟩, Nat.succ_ne_self _, Nat.ne_of_lt (Heap.lt_size ho1)⟩, fresh, q⟩
/-- the dict that an expression gives is locked from then on -/
theorem pe_lockV {X : Cx} {e : Expr} {td : TE} (h : PE X e td) : PE X e (fun σ H Q => td σ H fun x H1 => ∃ d u, x = .ref d ∧ H1 d = some u ∧ Mut u ∧ ∀ od, Q x (upd H1 d (.frz od u))) := by
  refine ⟨fun pins s σ H Q I hw => ?_⟩
  refine thn (h.run pins s σ H _ I hw) fun v s1 ⟨x, H1, I1, r, d, u, ex, hd, mu, q⟩ => ?_
  obtain ⟨od, I2⟩ := I1.lock hd mu
  exact ⟨x, _, I2, r, q od⟩
end L2
-- PyNx
namespace Py
open PySem PySem.Spec PyProof.Rows L2
variable {g : Gx} {k : Nat} {N : List Str}
/-! ### numbered, side by side -/
theorem enumL_at : ∀ (ds : List D) (i j : Nat) (d : D), (enumL i ds)[j]? = some d → ∃ x, ds[j]? = some x ∧ d = .tup [.int ((i + j : Nat) : Int), x]
  | [], i, j, d, h => by cases h
  | x :: ds, i, 0, d, h => ⟨x, rfl, (Option.some.inj h).symm⟩
  | x :: ds, i, j + 1, d, h => by
    obtain ⟨y, e, q⟩ := enumL_at ds (i + 1) j d h
    exact ⟨y, e, by rw [q]; congr 4; omega⟩
theorem enumL_len : ∀ (ds : List D) (i : Nat), (enumL i ds).length = ds.length
  | [], i => rfl
  | x :: ds, i => by simp [enumL, enumL_len ds]
theorem zipL_at : ∀ (as bs : List D) (j : Nat) (d : D), (zipL as bs)[j]? = some d → ∃ x y, as[j]? = some x ∧ bs[j]? = some y ∧ d = .tup [x, y]
  | [], _, j, d, h => by cases h
  | _ :: _, [], j, d, h => by cases h
  | a :: as, b :: bs, 0, d, h => ⟨a, b, rfl, rfl, (Option.some.inj h).symm⟩
  | a :: as, b :: bs, j + 1, d, h => zipL_at as bs j d h
theorem zipL_len : ∀ (as bs : List D), (zipL as bs).length = min as.length bs.length
  | [], _ => by simp [zipL]
  | _ :: _, [] => by simp [zipL]
  | a :: as, b :: bs => by simp [zipL, zipL_len as bs]
def SqX (K : PySem.W.Frag) (b : Bool) (H : Hp) (a : Addr) (xs : List V) : Prop := if b then SqT K H a xs else SqL K H a xs
/-- the items at a, as they stand whenever the source holds -/
def Cur (B : Bs) (b : Bool) (ρ0 : Rh) (H0 : Hp) (a : Addr) (cells : List (Nat × List D)) (ds : List D) : Prop :=
  ∀ (ρ : Rh) (S : Store) (H : Hp), Mv ρ0 H0 ρ H → Fz H0 H → Sim B ρ S H → (∀ p ∈ cells, S[p.1]? = some (.lst p.2)) → ∃ vs, SqX B.K b H a vs ∧ RepL B ρ H ds vs
theorem rep_pair {S : Store} {d e : D} {v w : V} {T : Addr} (s : Sim B ρ S H) (nT : H T = none) (r1 : Rep B ρ H d v) (r2 : Rep B ρ H e w) : Rep B ρ (upd H T (.tup [v, w])) (.tup [d, e]) (.ref T) := by
  have ex := Ext.alloc s (.tup [v, w]) nT
  exact .tup (s.fresh nT) upd_same (.cons (r1.mono ex) (.cons (r2.mono ex) .nil))
theorem it_enum {a : Addr} {ds : List D} {cells : List (Nat × List D)} (hc : Cur B false ρ H a cells ds) : ItOk B ρ H (Ite B.K a) ⟨enumL 0 ds, cells⟩ := by
  refine ⟨fun ρ1 S1 H1 m fz s1 ho i d hd => ?_, fun ρ1 S1 H1 m fz s1 ho => ?_⟩
  · obtain ⟨vs, q, rl⟩ := hc ρ1 S1 H1 m fz s1 ho
    have q : SqL B.K H1 a vs := q
    obtain ⟨x, e, rfl⟩ := enumL_at ds 0 i d hd
    obtain ⟨v, e2, r⟩ := rl.get e
    refine ⟨⟨vs, v, q, e2⟩, fun x' H' ⟨T, y, ex, nT, eH, hall⟩ => ⟨_, T, .inr ⟨nT, eH⟩, ?_⟩⟩
    have := hall vs q
    rw [e2] at this
    cases this
    subst eH
    subst ex
    rw [Nat.zero_add]
    exact rep_pair s1 nT (.int _) r
  · obtain ⟨vs, q, rl⟩ := hc ρ1 S1 H1 m fz s1 ho
    exact ⟨vs, q, by rw [enumL_len, rl.len]; exact Nat.le_refl _⟩
theorem it_enumT {a : Addr} {ds : List D} {cells : List (Nat × List D)} (hc : Cur B true ρ H a cells ds) : ItOk B ρ H (IteT B.K a) ⟨enumL 0 ds, cells⟩ := by
  refine ⟨fun ρ1 S1 H1 m fz s1 ho i d hd => ?_, fun ρ1 S1 H1 m fz s1 ho => ?_⟩
  · obtain ⟨vs, q, rl⟩ := hc ρ1 S1 H1 m fz s1 ho
    have q : SqT B.K H1 a vs := q
    obtain ⟨x, e, rfl⟩ := enumL_at ds 0 i d hd
    obtain ⟨v, e2, r⟩ := rl.get e
    refine ⟨⟨vs, v, q, e2⟩, fun x' H' ⟨T, y, ex, nT, eH, hall⟩ => ⟨_, T, .inr ⟨nT, eH⟩, ?_⟩⟩
    have := hall vs q
    rw [e2] at this
    cases this
    subst eH
    subst ex
    rw [Nat.zero_add]
    exact rep_pair s1 nT (.int _) r
  · obtain ⟨vs, q, rl⟩ := hc ρ1 S1 H1 m fz s1 ho
    exact ⟨vs, q, by rw [enumL_len, rl.len]; exact Nat.le_refl _⟩
theorem it_zip {a b : Addr} {ds es : List D} {c1 c2 : List (Nat × List D)} (hc : Cur B false ρ H a c1 ds) (hd : Cur B false ρ H b c2 es) : ItOk B ρ H (Itz B.K a b) ⟨zipL ds es, c1 ++ c2⟩ := by
  refine ⟨fun ρ1 S1 H1 m fz s1 ho i d hh => ?_, fun ρ1 S1 H1 m fz s1 ho => ?_⟩
  all_goals
    obtain ⟨vs, q, rl⟩ := hc ρ1 S1 H1 m fz s1 fun p hp => ho p (List.mem_append_left _ hp)
    obtain ⟨ws, q2, rl2⟩ := hd ρ1 S1 H1 m fz s1 fun p hp => ho p (List.mem_append_right _ hp)
    have q : SqL B.K H1 a vs := q
    have q2 : SqL B.K H1 b ws := q2
  · obtain ⟨x, y, e, e', rfl⟩ := zipL_at ds es i d hh
    obtain ⟨v, e2, r⟩ := rl.get e
    obtain ⟨w, e3, r2⟩ := rl2.get e'
    refine ⟨⟨vs, ws, v, w, q, q2, e2, e3⟩, fun x' H' ⟨T, x1, y1, ex, nT, eH, hall, hall2⟩ => ⟨_, T, .inr ⟨nT, eH⟩, ?_⟩⟩
    have h1 := hall vs q
    have h2 := hall2 ws q2
    rw [e2] at h1
    rw [e3] at h2
    cases h1
    cases h2
    subst eH
    subst ex
    exact rep_pair s1 nT r r2
  · refine ⟨vs, ws, q, q2, ?_⟩
    show vs.length ≤ (zipL ds es).length ∨ ws.length ≤ (zipL ds es).length
    rw [zipL_len, rl.len, rl2.len]
    omega
theorem it_zipT {a b : Addr} {ds es : List D} {c1 c2 : List (Nat × List D)} (hc : Cur B true ρ H a c1 ds) (hd : Cur B true ρ H b c2 es) : ItOk B ρ H (RZ.ItzT B.K a b) ⟨zipL ds es, c1 ++ c2⟩ := by
  refine ⟨fun ρ1 S1 H1 m fz s1 ho i d hh => ?_, fun ρ1 S1 H1 m fz s1 ho => ?_⟩
  all_goals
    obtain ⟨vs, q, rl⟩ := hc ρ1 S1 H1 m fz s1 fun p hp => ho p (List.mem_append_left _ hp)
    obtain ⟨ws, q2, rl2⟩ := hd ρ1 S1 H1 m fz s1 fun p hp => ho p (List.mem_append_right _ hp)
    have q : SqT B.K H1 a vs := q
    have q2 : SqT B.K H1 b ws := q2
  · obtain ⟨x, y, e, e', rfl⟩ := zipL_at ds es i d hh
    obtain ⟨v, e2, r⟩ := rl.get e
    obtain ⟨w, e3, r2⟩ := rl2.get e'
    refine ⟨⟨vs, ws, v, w, q, q2, e2, e3⟩, fun x' H' ⟨T, x1, y1, ex, nT, eH, hall, hall2⟩ => ⟨_, T, .inr ⟨nT, eH⟩, ?_⟩⟩
    have h1 := hall vs q
    have h2 := hall2 ws q2
    rw [e2] at h1
    rw [e3] at h2
    cases h1
    cases h2
    subst eH
    subst ex
    exact rep_pair s1 nT r r2
  · refine ⟨vs, ws, q, q2, ?_⟩
    show vs.length ≤ (zipL ds es).length ∨ ws.length ≤ (zipL ds es).length
    rw [zipL_len, rl.len, rl2.len]
    omega
/-- what srcOf gives of a list or a tuple -/
theorem src_cases {S S2 : Store} {d : D} {v : V} {src : Src} (s : Sim B ρ S H) (r : Rep B ρ H d v) (hn : notText d = true) (h : srcOf d S = .ok src S2) : S2 = S ∧ ∃ a, v = .ref a ∧ (((∃ ds, d = .tup ds) ∧ Cur B true ρ H a src.cells src.items) ∨ ((∀ ds, d ≠ .tup ds) ∧ Cur B false ρ H a src.cells src.items)) := by
  cases r with
  | str z => cases hn
  | @tup a ds vs n q rl =>
    cases h
    exact ⟨rfl, a, rfl, .inl ⟨⟨_, rfl⟩, fun ρ1 S1 H1 m fz s1 ho => ⟨vs, SqT.of (m.key _ _ q n).2, rl.move m⟩⟩⟩
  | @lst a ds vs n q rl =>
    cases h
    exact ⟨rfl, a, rfl, .inr ⟨fun _ e => (by cases e), fun ρ1 S1 H1 m fz s1 ho => ⟨vs, SqL.of (m.key _ _ q n).2, rl.move m⟩⟩⟩
  | @scr a o ns n q =>
    cases h
    exact ⟨rfl, a, rfl, .inr ⟨fun _ e => (by cases e), fun ρ1 S1 H1 m fz s1 ho => ⟨ns.map V.int, SqL.of2 (.inr ⟨o, (m.key _ _ q n).2⟩), RepL.ints ns⟩⟩⟩
  | @cell n a ha =>
    obtain ⟨cv, e, cr⟩ := s.get ha
    have h1 : (match S[n]? with
      | some (.lst xs) => .ok ⟨xs, [(n, xs)]⟩ S
      | _ => .stuck : Out Src) = .ok src S2 := h
    rw [e] at h1
    cases cv with
    | lst xs =>
      cases h1
      refine ⟨rfl, a, rfl, .inr ⟨fun _ e => (by cases e), fun ρ1 S1 H1 m fz s1 ho => ?_⟩⟩
      obtain ⟨vs, q, rl⟩ := cell_lst (s1.at_ n a _ (m.at_ _ _ ha) (ho (n, xs) List.mem_cons_self))
      exact ⟨vs, SqL.of q, rl⟩
    | dic _ _ => cases h1
    | ins _ _ => cases h1
  | _ => cases h
theorem src_noexc {S S2 : Store} {d : D} {x : Exn} (h : srcOf d S = .exc x S2) : False := by
  cases d with
  | cell n =>
    have h1 : (match S[n]? with
      | some (.lst xs) => .ok ⟨xs, [(n, xs)]⟩ S
      | _ => .stuck : Out Src) = .exc x S2 := h
    split at h1 <;> cases h1
  | _ => cases h
theorem src_holds {S S2 : Store} {d : D} {v : V} {src : Src} (s : Sim B ρ S H) (r : Rep B ρ H d v) (h : srcOf d S = .ok src S2) : ∀ p ∈ src.cells, S2[p.1]? = some (.lst p.2) := by
  cases d with
  | cell n =>
    have h1 : (match S[n]? with
      | some (.lst xs) => .ok ⟨xs, [(n, xs)]⟩ S
      | _ => .stuck : Out Src) = .ok src S2 := h
    split at h1
    · rename_i xs e
      cases h1
      intro p hp
      have : p = (n, xs) := by simpa using hp
      rw [this]
      exact e
    · cases h1
  | _ => cases h <;> (intro p hp; cases hp)
theorem snd_enum (a : E) (G : GOk g) (i1 : Snd g k N a) : Snd g k N (.enum a) := by
  refine i_only (f := _) rfl fun {X W tg e} cx hN h => ?_
  obtain ⟨ht, h⟩ := band h
  cases tg with
  | Tuple elts kk tpos =>
    cases e with
    | Call fn ys kws cp =>
      cases fn with
      | Name x q =>
        match ys, kws, h with
        | [a'], [], h =>
          obtain ⟨h1, h2⟩ := band (show (decide (("enumerate" : Str) = x) && (nameOk X.env.scope x && (notStar a' && (chk N a).v X.env.scope a'))) = true from h)
          obtain ⟨g2, h3'⟩ := band h2
          obtain ⟨g3, g4⟩ := band h3'
          have : ("enumerate" : Str) = x := of_decide_eq_true h1
          subst this
          obtain ⟨hg, hd, hn⟩ := gl_of g2
          have hm : X.mg "enumerate" = none := by rw [cx.mg]; exact G.fr _ (by decide +kernel)
          refine ⟨PI.imp (pi_enumA hg hm (pa_cons (i1.v cx hN g4) pa_nil (star_cons g3)) (by rw [star_cons g3] <;> rfl)) fun σ H R ⟨ρ, env, S, hs, s, gg⟩ => ?_, rfl⟩
          have gg : Go g.B ρ H (M.bind (ev a env) enumS S) (fun src ρ' S' H' => ∀ J, ItOk g.B ρ' H' J src → R J H') (KX g.B W σ) := gg
          refine subE hs s gg fun d v ρ1 S1 H1 e1 hs1 s1 r1 g1 => ?_
          unfold enumS at g1
          by_cases nt : notText d = true
          · rw [if_pos nt] at g1
            have g2 := Go.bindM g1
            cases es : srcOf d S1 with
            | stuck => rw [es] at g2; exact g2.elim
            | exc x S2 => exact (src_noexc es).elim
            | ok src S2 =>
              have g1' := g1
              rw [M.bind_of es] at g1'
              obtain ⟨rfl, a, rfl, c⟩ := src_cases s1 r1 nt es
              rw [cx.K]
              rcases c with ⟨_, c⟩ | ⟨_, c⟩
              · obtain ⟨vs, q, _⟩ := c ρ1 S2 H1 ⟨fun x u e n => ⟨n, e⟩, fun _ _ e => e⟩ (fun _ _ _ e => e) s1 (src_holds s1 r1 es)
                exact ⟨a, vs, rfl, .inr ⟨q, Go.now s1 g1' _ (it_enumT c)⟩⟩
              · obtain ⟨vs, q, _⟩ := c ρ1 S2 H1 ⟨fun x u e n => ⟨n, e⟩, fun _ _ e => e⟩ (fun _ _ _ e => e) s1 (src_holds s1 r1 es)
                exact ⟨a, vs, rfl, .inl ⟨q, Go.now s1 g1' _ (it_enum c)⟩⟩
          · rw [if_neg nt] at g1
            exact g1.elim
        | [], _, h => cases h
        | _ :: _ :: _, _, h => cases h
        | [_], _ :: _, h => cases h
      | _ => cases h
    | _ => cases h
  | _ => cases ht
theorem zero_mv {ρ : Rh} {H : Hp} : Mv ρ H ρ H := ⟨fun x u e n => ⟨n, e⟩, fun _ _ e => e⟩
theorem sameK_tup {ds : List D} {y : D} (h : sameK (.tup ds) y = true) : ∃ es, y = .tup es := by
  cases y with
  | tup es => exact ⟨es, rfl⟩
  | _ => cases h
theorem sameK_not {x y : D} (h : sameK x y = true) (hx : ∀ ds, x ≠ .tup ds) : (∀ es, y ≠ .tup es) ∧ notText x = true ∧ notText y = true := by
  refine ⟨fun es e => ?_, ?_, ?_⟩
  · subst e
    cases x with
    | tup ds => exact hx ds rfl
    | _ => cases h
  · cases x with
    | str _ => cases y <;> cases h
    | _ => rfl
  · cases y with
    | str _ => cases x <;> cases h
    | _ => rfl
theorem snd_zip2 (a b : E) (G : GOk g) (i1 : Snd g k N a) (i2 : Snd g k N b) : Snd g k N (.zip2 a b) := by
  refine i_only (f := _) rfl fun {X W tg e} cx hN h => ?_
  obtain ⟨ht, h⟩ := band h
  cases tg with
  | Tuple elts kk tpos =>
    cases e with
    | Call fn ys kws cp =>
      cases fn with
      | Name x q =>
        match ys, kws, h with
        | [a', b'], [], h =>
          obtain ⟨h1, h2⟩ := band (show (decide (("zip" : Str) = x) && (nameOk X.env.scope x && (notStar a' && (notStar b' && ((chk N a).v X.env.scope a' && (chk N b).v X.env.scope b'))))) = true from h)
          obtain ⟨g2, h3'⟩ := band h2
          obtain ⟨g3, h4'⟩ := band h3'
          obtain ⟨g4, h5'⟩ := band h4'
          obtain ⟨g5, g6⟩ := band h5'
          have : ("zip" : Str) = x := of_decide_eq_true h1
          subst this
          obtain ⟨hg, hd, hn⟩ := gl_of g2
          have hm : X.mg "zip" = none := by rw [cx.mg]; exact G.fr _ (by decide +kernel)
          refine ⟨PI.imp (RZ.pi_zipA hg hm (pa_cons (i1.v cx hN g5) (pa_cons (i2.v cx hN g6) pa_nil (star_cons g4)) (star_cons g3)) (by rw [star_cons g3, star_cons g4] <;> rfl) (by rw [star_cons g4] <;> rfl)) fun σ H R ⟨ρ, env, S, hs, s, gg⟩ => ?_, rfl⟩
          have gg : Go g.B ρ H (M.bind (ev a env) (fun x => M.bind (ev b env) fun y => zipS x y) S) (fun src ρ' S' H' => ∀ J, ItOk g.B ρ' H' J src → R J H') (KX g.B W σ) := gg
          refine subE hs s gg fun d v ρ1 S1 H1 e1 hs1 s1 r1 g1 => ?_
          refine subE hs1 s1 g1 fun d2 v2 ρ2 S2 H2 e2 hs2 s2 r2 g2 => ?_
          have r1 := r1.mono e2
          unfold zipS at g2
          by_cases sk : sameK d d2 = true
          · rw [if_pos sk] at g2
            have nts : notText d = true ∧ notText d2 = true := by
              by_cases hx : ∃ ds, d = .tup ds
              · obtain ⟨ds, rfl⟩ := hx
                obtain ⟨es, rfl⟩ := sameK_tup sk
                exact ⟨rfl, rfl⟩
              · exact (sameK_not sk fun ds e => hx ⟨ds, e⟩).2
            cases es : srcOf d S2 with
            | stuck => have g3 := Go.bindM g2; rw [es] at g3; exact g3.elim
            | exc x S3 => exact (src_noexc es).elim
            | ok src S3 =>
              obtain ⟨rfl, a, rfl, c⟩ := src_cases s2 r1 nts.1 es
              have ho := src_holds s2 r1 es
              rw [M.bind_of es] at g2
              cases es2 : srcOf d2 S3 with
              | stuck => have g3 := Go.bindM g2; rw [es2] at g3; exact g3.elim
              | exc x S4 => exact (src_noexc es2).elim
              | ok src2 S4 =>
                obtain ⟨rfl, b, rfl, c2⟩ := src_cases s2 r2 nts.2 es2
                have ho2 := src_holds s2 r2 es2
                rw [M.bind_of es2] at g2
                rw [cx.K]
                rcases c with ⟨⟨ds, rfl⟩, c⟩ | ⟨nt, c⟩
                · obtain ⟨es, rfl⟩ := sameK_tup sk
                  rcases c2 with ⟨_, c2⟩ | ⟨nt, _⟩
                  · obtain ⟨vs, q, _⟩ := c _ _ _ zero_mv (fun _ _ _ e => e) s2 ho
                    obtain ⟨ws, q', _⟩ := c2 _ _ _ zero_mv (fun _ _ _ e => e) s2 ho2
                    exact ⟨a, b, vs, ws, rfl, .inr ⟨q, q', Go.now s2 g2 _ (it_zipT c c2)⟩⟩
                  · exact absurd rfl (nt _)
                · rcases c2 with ⟨⟨es, rfl⟩, _⟩ | ⟨_, c2⟩
                  · exact absurd rfl ((sameK_not sk nt).1 es)
                  · obtain ⟨vs, q, _⟩ := c _ _ _ zero_mv (fun _ _ _ e => e) s2 ho
                    obtain ⟨ws, q', _⟩ := c2 _ _ _ zero_mv (fun _ _ _ e => e) s2 ho2
                    exact ⟨a, b, vs, ws, rfl, .inl ⟨q, q', Go.now s2 g2 _ (it_zip c c2)⟩⟩
          · rw [if_neg sk] at g2
            exact g2.elim
        | [], _, h => cases h
        | [_], _, h => cases h
        | _ :: _ :: _ :: _, _, h => cases h
        | [_, _], _ :: _, h => cases h
      | _ => cases h
    | _ => cases h
  | _ => cases ht
end Py
-- PyNy
namespace Py
open PySem PySem.Spec PyProof.Rows L2
variable {g : Gx} {k : Nat} {N : List Str}
/-! ### a dict that is walked is locked from then on -/
theorem keyD_rep {k : Key} : Rep B ρ H (keyD k) (kV k) := by
  cases k with
  | inl i => exact .int i
  | inr x => exact .str x
theorem it_vals {a : Addr} {od : Obj} {kvs : List (Key × D)} {kws : List (Key × V)} (q : H a = some (.frz od (.dK kws))) (kr : KRep B ρ H kvs kws) : ItOk B ρ H (Itd a od kws) (walkS .values kvs) := by
  have ln : (walkS .values kvs).items.length = kws.length := by rw [← kr.length]; simp [walkS]
  refine ⟨fun ρ1 S1 H1 m fz s1 _ i d hd => ?_, fun ρ1 S1 H1 m fz s1 _ => ⟨fz _ _ _ q, Nat.le_of_eq ln.symm⟩⟩
  have l : i < kws.length := by
    rw [← ln]
    exact (List.getElem?_eq_some_iff.mp hd).1
  refine ⟨⟨fz _ _ _ q, l⟩, fun x H' ⟨e1, k, e2⟩ => ⟨[], 0, .inl e1, ?_⟩⟩
  subst e1
  have hd : (kvs.map (·.2))[i]? = some d := hd
  rw [List.getElem?_map] at hd
  obtain ⟨p, e4, rfl⟩ := Option.map_eq_some_iff.mp hd
  obtain ⟨y, e6, z⟩ := paired_at kr e4
  rw [e2] at e6
  cases e6
  exact z.2.move m
theorem it_items {a : Addr} {od : Obj} {kvs : List (Key × D)} {kws : List (Key × V)} (q : H a = some (.frz od (.dK kws))) (kr : KRep B ρ H kvs kws) : ItOk B ρ H (Iti a od kws) (walkS .items kvs) := by
  have ln : (walkS .items kvs).items.length = kws.length := by rw [← kr.length]; simp [walkS]
  refine ⟨fun ρ1 S1 H1 m fz s1 _ i d hd => ?_, fun ρ1 S1 H1 m fz s1 _ => ⟨fz _ _ _ q, Nat.le_of_eq ln.symm⟩⟩
  have l : i < kws.length := by
    rw [← ln]
    exact (List.getElem?_eq_some_iff.mp hd).1
  refine ⟨⟨fz _ _ _ q, l⟩, fun x H' ⟨T, k, v, e2, ex, nT, eH⟩ => ⟨_, T, .inr ⟨nT, eH⟩, ?_⟩⟩
  have hd : (kvs.map fun kv => D.tup [keyD kv.1, kv.2])[i]? = some d := hd
  rw [List.getElem?_map] at hd
  obtain ⟨p, e4, rfl⟩ := Option.map_eq_some_iff.mp hd
  obtain ⟨y, e6, z⟩ := paired_at kr e4
  rw [e2] at e6
  cases e6
  subst eH
  subst ex
  rw [show p.1 = k from z.1]
  exact rep_pair s1 nT keyD_rep (z.2.move m)
/-- .. locked by the reading, if it is not yet -/
def tLockV (td : TE) : TE := fun σ H Q => td σ H fun x H1 => ∃ d u, x = .ref d ∧ ((∃ od, H1 d = some (.frz od u) ∧ Q x H1) ∨ (H1 d = some u ∧ Mut (some u) ∧ ∀ od, Q x (upd H1 d (.frz od u))))
theorem pe_lockV2 {X : Cx} {e : PySem.Expr} {td : TE} (h : PE X e td) : PE X e (tLockV td) := by
  refine ⟨fun pins s σ H Q I hw => ?_⟩
  refine thn (h.run pins s σ H _ I hw) fun v s1 ⟨x, H1, I1, r, d, u, ex, q⟩ => ?_
  rcases q with ⟨od, hd, q⟩ | ⟨hd, mu, q⟩
  · exact ⟨x, _, I1, r, q⟩
  · obtain ⟨od, I2⟩ := I1.lock hd mu
    exact ⟨x, _, I2, r, q od⟩
theorem lock_step {W : WX} {kd : Wk} {a : E} {R : It → Hp → Prop} {J : Addr → Obj → List (Key × V) → It} (hJ : ∀ {ρ : Rh} {H : Hp} {a : Addr} {od : Obj} {kvs : List (Key × D)} {kws : List (Key × V)}, H a = some (.frz od (.dK kws)) → KRep B ρ H kvs kws → ItOk B ρ H (J a od kws) (walkS kd kvs))
    {σ : L2.St} {H : Hp} {P : V → Hp → Prop} (hP : ∀ (d : Addr) (o : Obj) (kvs : List (Key × V)) (H1 : Hp), H1 d = some (.frz o (.dK kvs)) → R (J d o kvs) H1 → P (.ref d) H1) (h : tI B W (.walk kd a) σ H R) : tLockV (tE B W a) σ H P := by
  obtain ⟨ρ, env, S, hs, s, gg⟩ := h
  have gg : Go B ρ H (M.bind (ev a env) (lockD kd) S) (fun src ρ' S' H' => ∀ J, ItOk B ρ' H' J src → R J H') (KX B W σ) := gg
  refine subE hs s gg fun d v ρ1 S1 H1 e1 hs1 s1 r1 g1 => ?_
  cases r1 with
  | @cell n a ha =>
    obtain ⟨cv, e, cr⟩ := s1.get ha
    have g1 : Go B ρ1 H1 (match S1[n]? with
      | some (.dic false kvs) => .ok (walkS kd kvs) (S1.set n (.dic true kvs))
      | some (.dic true kvs) => .ok (walkS kd kvs) S1
      | _ => .stuck : Out Src) (fun src ρ' S' H' => ∀ J, ItOk B ρ' H' J src → R J H') (KX B W σ) := g1
    rw [e] at g1
    cases cr with
    | lst _ _ => exact g1.elim
    | ins _ _ _ => exact g1.elim
    | @lck a od kvs kws q kr => exact ⟨a, _, rfl, .inl ⟨od, q, hP a od kws _ q (Go.now s1 g1 _ (hJ q kr))⟩⟩
    | @dic a kvs kws q kr =>
      refine ⟨a, _, rfl, .inr ⟨q, True.intro, fun od => hP a od kws _ upd_same ?_⟩⟩
      have am : a ∈ ρ1.c := List.mem_iff_getElem?.mpr ⟨n, ha⟩
      have nf : ∀ o' u, H1 a ≠ some (.frz o' u) := fun o' u z => by rw [q] at z; cases z
      have exL : Ext ρ1 H1 ρ1 (upd H1 a (.frz od (.dK kws))) := Ext.write s1 _ am nf
      have krL := kr.mono exL
      have sL := s1.write (o := .frz od (.dK kws)) (c := .dic true kvs) ha (.lck upd_same krL)
      exact g1 ρ1 _ exL sL _ (hJ upd_same krL)
  | _ => exact g1.elim
theorem snd_walk (kd : Wk) (a : E) (i1 : Snd g k N a) : Snd g k N (.walk kd a) := by
  refine i_only (f := _) rfl fun {X W tg e} cx hN h => ?_
  cases kd with
  | keys =>
    obtain ⟨ns, h⟩ := band (show (noSet e && (chk N a).v X.env.scope e) = true from h)
    exact ⟨PI.imp (pi_keys (pe_lockV2 (i1.v cx hN h))) fun σ H R z => lock_step (J := Itk) (kd := .keys) (fun q kr => it_keys q kr) (fun d o kvs H1 e2 e3 => ⟨d, o, rfl, .inl ⟨kvs, e2, e3⟩⟩) z, ns⟩
  | values =>
    cases e with
    | Call fn ys kws cp =>
      cases fn with
      | Attribute a' x p =>
        match ys, kws, h with
        | [], [], h =>
          obtain ⟨h1, h2⟩ := band (show (decide (("values" : Str) = x) && (plainB a' && ((p.endLine == cp.line) && (chk N a).v X.env.scope a'))) = true from h)
          obtain ⟨g2, h3⟩ := band h2
          obtain ⟨g3, g4⟩ := band h3
          have : ("values" : Str) = x := of_decide_eq_true h1
          subst this
          exact ⟨PI.imp (pi_values (pe_lockV2 (i1.v cx hN g4)) (base_plain g2) g3) fun σ H R z => lock_step (J := Itd) (fun q kr => it_vals q kr) (fun d o kvs H1 e2 e3 => ⟨d, o, kvs, rfl, e2, e3⟩) z, rfl⟩
        | _ :: _, _, h => cases h
        | [], _ :: _, h => cases h
      | _ => cases h
    | _ => cases h
  | items =>
    dsimp only at h
    obtain ⟨ht, h⟩ := band h
    cases tg with
    | Tuple elts kk tpos =>
      cases e with
      | Call fn ys kws cp =>
        cases fn with
        | Attribute a' x p =>
          match ys, kws, h with
          | [], [], h =>
            obtain ⟨h1, h2⟩ := band (show (decide (("items" : Str) = x) && (plainB a' && ((p.endLine == cp.line) && (chk N a).v X.env.scope a'))) = true from h)
            obtain ⟨g2, h3⟩ := band h2
            obtain ⟨g3, g4⟩ := band h3
            have : ("items" : Str) = x := of_decide_eq_true h1
            subst this
            exact ⟨PI.imp (pi_items (pe_lockV2 (i1.v cx hN g4)) (base_plain g2) g3) fun σ H R z => lock_step (J := Iti) (fun q kr => it_items q kr) (fun d o kvs H1 e2 e3 => ⟨d, o, kvs, rfl, e2, e3⟩) z, rfl⟩
          | _ :: _, _, h => cases h
          | [], _ :: _, h => cases h
        | _ => cases h
      | _ => cases h
    | _ => cases ht
end Py
-- PyX0
namespace Py
open PySem PySem.Spec PyProof.Rows L2
variable {g : Gx} {k : Nat} {N : List Str} {ρ2 : Rh} {H2 : Hp}
def Rh.cut (ρ : Rh) (n : Nat) : Rh := ⟨ρ.c.take n, ρ.z⟩
theorem cut_at {ρ : Rh} {n j : Nat} {a : Addr} (h : ρ.at j = some a) (l : j < n) : (ρ.cut n).at j = some a := by
  show (ρ.c.take n)[j]? = some a
  rw [List.getElem?_take_of_lt l]
  exact h
theorem cut_not {ρ : Rh} {n : Nat} {a : Addr} (h : a ∉ ρ) : a ∉ ρ.cut n := fun m => by
  rcases m with m | m
  · exact h (.inl (List.mem_of_mem_take m))
  · exact h (.inr m)
mutual
theorem Rep.cut {n : Nat} : ∀ (d : D) (v : V), below n d → Rep B ρ H d v → Rep B (ρ.cut n) H d v
  | .non, _, _, h => by cases h; exact .non
  | .bl b, _, _, h => by cases h; exact .bl b
  | .int b, _, _, h => by cases h; exact .int b
  | .str b, _, _, h => by cases h; exact .str b
  | .tup ds, _, b, h => by
    cases h with
    | tup m q r => exact .tup (cut_not m) q (RepL.cut ds _ b r)
  | .lst ds, _, b, h => by
    cases h with
    | lst m q r => exact .lst (cut_not m) q (RepL.cut ds _ b r)
  | .scr ns, _, _, h => by
    cases h with
    | scr m q => exact .scr (cut_not m) q
  | .ins c ns ds, _, b, h => by
    cases h with
    | ins z m q l r => exact .ins z (cut_not m) q l (RepL.cut ds _ b r)
  | .cell j, _, b, h => by
    cases h with
    | cell q => exact .cell (cut_at q b)
theorem RepL.cut {n : Nat} : ∀ (ds : List D) (vs : List V), belowL n ds → RepL B ρ H ds vs → RepL B (ρ.cut n) H ds vs
  | [], _, _, h => by cases h; exact .nil
  | d :: ds, _, b, h => by
    cases h with
    | cons a r => exact .cons (Rep.cut d _ b.1 a) (RepL.cut ds _ b.2 r)
end
theorem KRep.cut {n : Nat} : ∀ (ds : List (Key × D)) (vs : List (Key × V)), belowK n ds → KRep B ρ H ds vs → KRep B (ρ.cut n) H ds vs
  | [], _, _, h => by cases h; exact .nil
  | d :: ds, _, b, h => by
    cases h with
    | cons a r => exact .cons ⟨a.1, Rep.cut _ _ b.1 a.2⟩ (KRep.cut ds _ b.2 r)
theorem FRep.cut {n : Nat} : ∀ (ds : List (Str × D)) (vs : List (Str × V)), belowF n ds → FRep B ρ H ds vs → FRep B (ρ.cut n) H ds vs
  | [], _, _, h => by
    cases h
    exact .nil
  | d :: ds, _, b, h => by
    cases h with
    | cons a r => exact .cons ⟨a.1, Rep.cut _ _ b.1 a.2⟩ (FRep.cut ds _ b.2 r)
mutual
theorem below_of {n : Nat} (hn : ρ.c.length ≤ n) : ∀ (d : D) (v : V), Rep B ρ H d v → below n d
  | .non, _, _ => True.intro
  | .bl b, _, _ => True.intro
  | .int b, _, _ => True.intro
  | .str b, _, _ => True.intro
  | .tup ds, _, h => by
    cases h with
    | tup m q r => exact belowL_of hn ds _ r
  | .lst ds, _, h => by
    cases h with
    | lst m q r => exact belowL_of hn ds _ r
  | .scr ns, _, _ => True.intro
  | .ins c ns ds, _, h => by
    cases h with
    | ins z m q l r => exact belowL_of hn ds _ r
  | .cell j, _, h => by
    cases h with
    | cell q => exact Nat.lt_of_lt_of_le (List.getElem?_eq_some_iff.mp (show ρ.c[j]? = some _ from q)).1 hn
theorem belowL_of {n : Nat} (hn : ρ.c.length ≤ n) : ∀ (ds : List D) (vs : List V), RepL B ρ H ds vs → belowL n ds
  | [], _, _ => True.intro
  | d :: ds, _, h => by
    cases h with
    | cons a r => exact ⟨below_of hn d _ a, belowL_of hn ds _ r⟩
end
theorem belowK_of {n : Nat} (hn : ρ.c.length ≤ n) : ∀ (ds : List (Key × D)) (vs : List (Key × V)), KRep B ρ H ds vs → belowK n ds
  | [], _, _ => True.intro
  | d :: ds, _, h => by
    cases h with
    | cons a r => exact ⟨below_of hn _ _ a.2, belowK_of hn ds _ r⟩
theorem belowF_of {n : Nat} (hn : ρ.c.length ≤ n) : ∀ (ds : List (Str × D)) (vs : List (Str × V)), FRep B ρ H ds vs → belowF n ds
  | [], _, _ => True.intro
  | d :: ds, _, h => by
    cases h with
    | cons a r => exact ⟨below_of hn _ _ a.2, belowF_of hn ds _ r⟩
theorem belowC_of {n : Nat} {a : Addr} (hn : ρ.c.length ≤ n) {c : CV} (r : CRep B ρ H c a) : belowC n c := by
  cases r with
  | lst q r => exact belowL_of hn _ _ r
  | dic q r => exact belowK_of hn _ _ r
  | lck q r => exact belowK_of hn _ _ r
  | ins _ q r => exact belowF_of hn _ _ r
theorem CRep.cut {n : Nat} {a : Addr} {c : CV} (b : belowC n c) (r : CRep B ρ H c a) : CRep B (ρ.cut n) H c a := by
  cases r with
  | lst q r => exact .lst q (RepL.cut _ _ b r)
  | dic q r => exact .dic q (KRep.cut _ _ b r)
  | lck q r => exact .lck q (KRep.cut _ _ b r)
  | ins z q r => exact .ins z q (FRep.cut _ _ b r)
theorem f_parts : ∀ {fs : List (Str × D)} {ws : List (Str × V)}, FRep B ρ H fs ws → RepL B ρ H (fs.map (·.2)) (ws.map (·.2)) ∧ (fs.map (·.1)).zip (ws.map (·.2)) = ws ∧ (fs.map (·.1)).length = (ws.map (·.2)).length
  | _, _, .nil => ⟨.nil, rfl, rfl⟩
  | p :: fs, q :: ws, .cons r t => by
    obtain ⟨a, b, c⟩ := f_parts t
    refine ⟨.cons r.2 a, ?_, by simpa using c⟩
    rw [List.map_cons, List.map_cons, List.zip_cons_cons, b, r.1]
mutual
/-- frozen data stands for the same value -/
theorem fz_rep {n : Nat} (s : Sim B ρ S H) : ∀ (m : Nat) (d d' : D) (v : V), fzD S n m d = some d' → Rep B ρ H d v → Rep B (ρ.cut n) H d' v
  | 0, _, _, _, e, _ => by cases e
  | m + 1, .non, _, _, e, h => by cases e; cases h; exact .non
  | m + 1, .bl b, _, _, e, h => by cases e; cases h; exact .bl b
  | m + 1, .int b, _, _, e, h => by cases e; cases h; exact .int b
  | m + 1, .str b, _, _, e, h => by cases e; cases h; exact .str b
  | m + 1, .scr ns, _, _, e, h => by
    cases e
    cases h with
    | scr q1 q2 => exact .scr (cut_not q1) q2
  | m + 1, .tup ds, d', _, e, h => by
    obtain ⟨ds', e1, rfl⟩ := Option.map_eq_some_iff.mp (show (fzL S n m ds).map D.tup = some d' from e)
    cases h with
    | tup q1 q r => exact .tup (cut_not q1) q (fz_repL s m ds ds' _ e1 r)
  | m + 1, .lst ds, d', _, e, h => by
    obtain ⟨ds', e1, rfl⟩ := Option.map_eq_some_iff.mp (show (fzL S n m ds).map D.lst = some d' from e)
    cases h with
    | lst q1 q r => exact .lst (cut_not q1) q (fz_repL s m ds ds' _ e1 r)
  | m + 1, .ins c ns ds, d', _, e, h => by
    obtain ⟨ds', e1, rfl⟩ := Option.map_eq_some_iff.mp (show (fzL S n m ds).map (D.ins c ns) = some d' from e)
    cases h with
    | ins z q1 q l r => exact .ins z (cut_not q1) q l (fz_repL s m ds ds' _ e1 r)
  | m + 1, .cell j, d', _, e, h => by
    have e : (if j < n then some (D.cell j) else (match S[j]? with
      | some (.lst xs) => (fzL S n m xs).map .lst
      | some (.ins c fs) => (fzL S n m (fs.map (·.2))).map (.ins c (fs.map (·.1)))
      | _ => none)) = some d' := e
    by_cases l : j < n
    · rw [if_pos l] at e
      cases e
      cases h with
      | cell q => exact .cell (cut_at q l)
    · rw [if_neg l] at e
      cases h with
      | @cell _ a q =>
        obtain ⟨cv, ec, cr⟩ := s.get q
        rw [ec] at e
        have nm : a ∉ ρ.cut n := fun mm => by
          have q' : ρ.c[j]? = some a := q
          rcases mm with mm | mm
          · obtain ⟨i, hi⟩ := List.mem_iff_getElem?.mp (show a ∈ ρ.c.take n from mm)
            have li : i < n := by
              have := (List.getElem?_eq_some_iff.mp hi).1
              rw [List.length_take] at this
              omega
            rw [List.getElem?_take_of_lt li] at hi
            have := nodup_at s.ndc hi q'
            omega
          · exact s.apart (List.mem_iff_getElem?.mpr ⟨j, q'⟩) mm
        cases cr with
        | dic _ _ => cases e
        | lck _ _ => cases e
        | @lst a xs vs q1 rl =>
          obtain ⟨ds', e1, rfl⟩ := Option.map_eq_some_iff.mp (show (fzL S n m xs).map D.lst = some d' from e)
          exact .lst nm q1 (fz_repL s m xs ds' _ e1 rl)
        | @ins a dx c fs ws z q1 r =>
          obtain ⟨ds', e1, rfl⟩ := Option.map_eq_some_iff.mp (show (fzL S n m (fs.map (·.2))).map (D.ins c (fs.map (·.1))) = some d' from e)
          obtain ⟨f1, f2, f3⟩ := f_parts r
          exact .ins z nm (by rw [f2]; exact q1) f3 (fz_repL s m _ ds' _ e1 f1)
theorem fz_repL {n : Nat} (s : Sim B ρ S H) : ∀ (m : Nat) (ds ds' : List D) (vs : List V), fzL S n m ds = some ds' → RepL B ρ H ds vs → RepL B (ρ.cut n) H ds' vs
  | 0, _, _, _, e, _ => by cases e
  | m + 1, [], _, _, e, h => by cases e; cases h; exact .nil
  | m + 1, d :: ds, ds', _, e, h => by
    have e : (match fzD S n m d, fzL S n m ds with
      | some p, some ps => some (p :: ps)
      | _, _ => none) = some ds' := e
    cases h with
    | cons a r =>
      cases e1 : fzD S n m d with
      | none => rw [e1] at e; cases e
      | some p =>
        cases e2 : fzL S n m ds with
        | none => rw [e1, e2] at e; cases e
        | some ps =>
          rw [e1, e2] at e
          cases e
          exact .cons (fz_rep s m d p _ e1 a) (fz_repL s m ds ps _ e2 r)
end
theorem cut_sim (s : Sim B ρ S H) (e : Ext ρ H ρ' H') (s' : Sim B ρ' S' H') (kp : Kept S S') : Ext ρ H (ρ'.cut S.length) H' ∧ Sim B (ρ'.cut S.length) (S'.take S.length) H' := by
  obtain ⟨t, et⟩ := e.pre
  have ec : ρ'.c.take S.length = ρ.c := by rw [et, ← s.len, List.take_left]
  have l1 : S.length ≤ S'.length := by
    rw [← s.len, ← s'.len, et, List.length_append]
    omega
  refine ⟨⟨⟨[], by show ρ'.c.take S.length = _; rw [ec, List.append_nil]⟩, e.hid, fun a m n => ?_, e.keep, e.same, e.frz⟩, ?_, ?_, fun j a c h1 h2 => ?_, s'.hz⟩
  · rcases m with m | m
    · have m : a ∈ ρ'.c.take S.length := m
      rw [ec] at m
      exact absurd (.inl m) n
    · exact e.new a (.inr m) n
  · show (ρ'.c.take S.length ++ ρ'.z).Nodup
    rw [ec, e.hid]
    exact s.nd
  · show (ρ'.c.take S.length).length = (S'.take S.length).length
    rw [ec, List.length_take, s.len]
    omega
  · have h1 : (ρ'.c.take S.length)[j]? = some a := h1
    have l : j < S.length := by
      have := (List.getElem?_eq_some_iff.mp h1).1
      rw [List.length_take] at this
      omega
    rw [List.getElem?_take_of_lt l] at h1 h2
    have cr := s'.at_ j a c h1 h2
    refine CRep.cut ?_ cr
    rcases kp j l with q | ⟨c', q, b⟩
    · rw [h2] at q
      have ha : ρ.at j = some a := by
        show ρ.c[j]? = some a
        rw [← ec, List.getElem?_take_of_lt l]
        exact h1
      exact belowC_of (Nat.le_of_eq s.len) (s.at_ j a c ha q.symm)
    · rw [h2] at q
      cases q
      exact b
theorem fzF_look {n : Nat} {f : Str} {d' : D} : ∀ {fs : List (Str × D)} {fs' : List (Str × D)}, fzF S n fs = some fs' → fs'.lookup f = some d' → ∃ d, fs.lookup f = some d ∧ fzD S n 1000 d = some d'
  | [], _, e, h => by cases e; cases h
  | p :: r, fs', e, h => by
    have e : (match fzD S n 1000 p.2, fzF S n r with
      | some d, some t => some ((p.1, d) :: t)
      | _, _ => none) = some fs' := e
    cases e1 : fzD S n 1000 p.2 with
    | none => rw [e1] at e; cases e
    | some q =>
      cases e2 : fzF S n r with
      | none => rw [e1, e2] at e; cases e
      | some t =>
        rw [e1, e2] at e
        cases e
        rw [List.lookup_cons] at h
        obtain ⟨pn, pd⟩ := p
        rw [List.lookup_cons]
        cases c : f == pn with
        | true =>
          have h : some q = some d' := by simpa [c] using h
          cases h
          exact ⟨pd, rfl, e1⟩
        | false =>
          have h : t.lookup f = some d' := by simpa [c] using h
          exact fzF_look e2 h
theorem ret_ok {z : Bool} {d : D} {v : V} {Q : VK} {kx : Exn → Rh → Store → Hp → Prop} (s : Sim B ρ S H) (e : Ext ρ H ρ' H') (s' : Sim B ρ' S' H') (r : Rep B ρ' H' d v) (gg : Go B ρ H (retF z S d S') (KV1 B Q) kx) : Q v H' := by
  unfold retF at gg
  cases z with
  | false => exact gg ρ' H' e s' v r
  | true =>
    rw [if_pos rfl] at gg
    cases ed : fzD S' S.length 1000 d with
    | none => rw [ed] at gg; exact gg.elim
    | some d' =>
      rw [ed] at gg
      have gg : Go B ρ H (@ite _ (Kept S S') (Classical.propDecidable _) (.ok d' (S'.take S.length)) .stuck) (KV1 B Q) kx := gg
      by_cases kp : Kept S S'
      · rw [if_pos kp] at gg
        obtain ⟨e2, s2⟩ := cut_sim s e s' kp
        exact gg _ _ e2 s2 v (fz_rep s' 1000 d d' v ed r)
      · rw [if_neg kp] at gg
        exact gg.elim
theorem exc_ok {z : Bool} {x : Exn} {cls : Value} {dd : Option Addr} {Q : VK} {E : XK} (s : Sim B ρ S H) (e : Ext ρ H ρ' H') (s' : Sim B ρ' S' H') (r : RepX B ρ' H' x cls dd)
    (gg : Go B ρ H (excF z S x S') (KV1 B Q) (fun x ρ' _ H' => ∀ cls dd, RepX B ρ' H' x cls dd → E cls dd H')) : E cls dd H' := by
  unfold excF at gg
  cases z with
  | false => exact gg ρ' H' e s' cls dd r
  | true =>
    rw [if_pos rfl] at gg
    cases ed : fzF S' S.length x.fs with
    | none => rw [ed] at gg; exact gg.elim
    | some fs =>
      rw [ed] at gg
      have gg : Go B ρ H (@ite _ (Kept S S') (Classical.propDecidable _) (.exc ⟨x.cls, fs⟩ (S'.take S.length)) .stuck) (KV1 B Q) (fun x ρ' _ H' => ∀ cls dd, RepX B ρ' H' x cls dd → E cls dd H') := gg
      by_cases kp : Kept S S'
      · rw [if_pos kp] at gg
        obtain ⟨e2, s2⟩ := cut_sim s e s' kp
        obtain ⟨r1, a, vs, r2, r3, r4, r5⟩ := r
        refine gg _ _ e2 s2 cls dd ⟨r1, a, vs, r2, r3, cut_not r4, fun n d' hl => ?_⟩
        obtain ⟨d, l1, l2⟩ := fzF_look ed hl
        obtain ⟨v, l3, rv⟩ := r5 n d l1
        exact ⟨v, l3, fz_rep s' 1000 d d' v l2 rv⟩
      · rw [if_neg kp] at gg
        exact gg.elim
end Py
-- PyNz
namespace Py
open PySem PySem.Spec PyProof.Rows L2
variable {g : Gx} {k : Nat} {N : List Str} {ρ2 : Rh} {H2 : Hp}
/-! ### own objects are made -/
section
variable {X : Cx} {CX : CXT} {j n : Nat} {f C : Addr} {fd : FuncData} {ps : List Str} {sp : Sp} {E : L2.St → XK} {x : Str} {p pos : Pos} {e : PySem.Expr} {es : List PySem.Expr} {kws : List Keyword} {ks : List Str} {t tk : TA} {gg : List Value → List Value → List Value} {gV : List V → List V → List V}
theorem run_mkS {pins : List (Addr × Obj)} {σ : L2.St} {H : Hp} {s : Shared} {Q : VK} {us ws : List Value} {vs zs : List V} (M : Mk X.K C f) (F : FnOk X.prog X.w X.K X.mg X.base CX j f fd ps sp) (hr : Room (j + 1) X.A)
    (hb : ∀ (s : Shared) (x : Value) (us ws : List Value), X.K.In s.heap → us.length = n → ws.length = ks.length → BindsTo s fd ⟨x :: us, ks.zip ws⟩ (ps.zip (x :: gg us ws)))
    (hrel : Vals vs us → Vals zs ws → Vals (gV vs zs) (gg us ws)) (hx : PassesAt CX X σ (E σ)) (I : Inv X pins σ H s) (r : Vals vs us) (rz : Vals zs ws) (l1 : vs.length = n) (l2 : zs.length = ks.length)
    (h : ∀ x dx, H x = none → H dx = none → dx ≠ x → sp (.ref x :: gV vs zs) (upd (upd H dx (.own x)) x (.ins C dx [])) (fun v H2 => v = .non ∧ Q (.ref x) H2) (E σ)) :
    wpAny (model X.prog X.w) X.A (call (.ref C) us (ks.zip ws)) (EP X pins σ Q) X.xe s := by
  have hq := h (s.heap.objs.size + 1) s.heap.objs.size (I.hok.fresh (Nat.le_succ _)) (I.hok.fresh (Nat.le_refl _)) (Nat.ne_of_lt (Nat.lt_succ_self _))
  have I2 := Inv.made (C := C) I
  have r2 : Vals (V.ref (s.heap.objs.size + 1) :: gV vs zs) (Value.ref (s.heap.objs.size + 1) :: gg us ws) := .cons rfl (hrel r rz)
  refine wpAny_call (make_map (f := f) I.kIn M.makes M.init (beq_iff_eq.mp M.fn) (codeAny_mono (F.run _ X.stack _ _ ⟨Value.ref (s.heap.objs.size + 1) :: us, ks.zip ws⟩ (Value.ref (s.heap.objs.size + 1) :: gg us ws) _ _ (E σ) (hr.make C us (ks.zip ws))
    (I2.env0.make C us (ks.zip ws)) (hb _ (Value.ref (s.heap.objs.size + 1)) us ws I2.kIn (by rw [← r.length]; exact l1) (by rw [← rz.length]; exact l2)) r2 hq) fun r s' hq' => ?_))
  cases r with
  | error e => exact hx pins _ _ e s' I2 hq'
  | ok fl =>
    cases fl with
    | ret u =>
      obtain ⟨v, H', I3, rv, ev, q3⟩ := I2.after hq'
      subst ev
      exact ⟨rv, ⟨V.ref (s.heap.objs.size + 1), H', I3, rfl, q3⟩⟩
    | next => exact False.elim hq'
    | brk => exact False.elim hq'
    | cont => exact False.elim hq'
def tMkS (C : Addr) (n m : Nat) (sp : Sp) (gV : List V → List V → List V) (E : L2.St → XK) (t tk : TA) : TE := fun σ H Q => t σ H fun vs H1 => tk σ H1 fun zs H2 => vs.length = n ∧ zs.length = m ∧ ∀ x dx, H2 x = none → H2 dx = none → dx ≠ x →
  sp (.ref x :: gV vs zs) (upd (upd H2 dx (.own x)) x (.ins C dx [])) (fun v H3 => v = .non ∧ Q (.ref x) H3) (E σ)
/-- C(e, ..) -/
theorem pe_mkS (M : Mk X.K C f) (F : FnOk X.prog X.w X.K X.mg X.base CX j f fd ps sp) (hr : Room (j + 1) X.A) (hg : Gl X x) (hm : X.mg x = some (.ref C)) (hb : Binds X.K fd ps []) (hl : ps.length = n + 1) (hx : ∀ σ, PassesAt CX X σ (E σ))
    (ha : PA X (e :: es) t) (hdb : (x == ("__debug__" : Str)) = false) (he : starEach (e :: es) X.env = (false, eval e X.env) :: starEach es X.env) (hpl : (backTo pos (starEach es X.env)).any (·.1) = false) :
    PE X (.Call (.Name x p) (e :: es) [] pos) (fun σ H Q => t σ H fun vs H1 => vs.length = n ∧ ∀ x dx, H1 x = none → H1 dx = none → dx ≠ x → sp (.ref x :: vs) (upd (upd H1 dx (.own x)) x (.ins C dx [])) (fun v H3 => v = .non ∧ Q (.ref x) H3) (E σ)) := by
  refine ⟨fun pins s σ H Q I h => ?_⟩
  refine wpAny_Call_Name_kw (ld_glob I hg hm ?_ hdb)
  refine PySem.W.callWith_K (h₀ := X.base) I.ok.mod.kin M.kp (thn (ha.run pos pins s σ H _ I h) fun us s1 ⟨vs, H1, I1, r, l1, q⟩ => ⟨I1.kIn, ?_⟩) he hpl
  exact run_mkS (n := n) (ks := []) (ws := []) (zs := []) (gg := fun us _ => us) (gV := fun vs _ => vs) M F hr (fun s x us ws X l1 _ => by
    have := hb s (x :: us) X (by rw [List.append_nil, List.length_cons, l1, hl])
    rw [List.append_nil] at this
    cases ws with
    | nil => exact this
    | cons _ _ => exact this) (fun r _ => r) (hx σ) I1 r .nil l1 rfl q
/-- C(e, .., k = v, ..) -/
theorem pe_mkK1 (M : Mk X.K C f) (F : FnOk X.prog X.w X.K X.mg X.base CX j f fd ps sp) (hr : Room (j + 1) X.A) (hg : Gl X x) (hm : X.mg x = some (.ref C))
    (hb : ∀ (s : Shared) (x : Value) (us ws : List Value), X.K.In s.heap → us.length = n → ws.length = ks.length → BindsTo s fd ⟨x :: us, ks.zip ws⟩ (ps.zip (x :: gg us ws)))
    (hrel : ∀ {vs : List V} {us : List Value} {zs : List V} {ws : List Value}, Vals vs us → Vals zs ws → Vals (gV vs zs) (gg us ws)) (hx : ∀ σ, PassesAt CX X σ (E σ))
    (hns : (e :: es).all notStar = true) (ha : PA X (e :: es) t) (hkw : PK X kws tk) (hks : kws.map (·.arg) = ks.map some) (hdb : (x == ("__debug__" : Str)) = false) :
    PE X (.Call (.Name x p) (e :: es) kws pos) (tMkS C n ks.length sp gV E t tk) := by
  obtain ⟨k1, k2, k3⟩ := kw_names (env := X.env) (pos := pos) hks
  refine ⟨fun pins s σ H Q I h => ?_⟩
  refine wpAny_Call_Name_kw (ld_glob I hg hm ?_ hdb)
  have hns0 := hns
  rw [List.all_cons] at hns
  obtain ⟨n1, n2⟩ := band hns
  refine PySem.W.callWith_KW (h₀ := X.base) I.ok.mod.kin M.kp k1 (thn (ha.run pos pins s σ H _ I h) fun us s1 ⟨vs, H1, I1, r, q⟩ => ?_) (by rw [star_any hns0, k3]; rfl) (star_cons n1)
  refine thn (hkw.run pos pins s1 σ H1 _ I1 q) fun ws s2 ⟨zs, H2, I2, rz, l1, l2, q2⟩ => ⟨I2.kIn, ?_⟩
  rw [k2]
  exact run_mkS M F hr hb hrel (hx σ) I2 r rz l1 l2 q2
theorem pe_mkK0 (M : Mk X.K C f) (F : FnOk X.prog X.w X.K X.mg X.base CX j f fd ps sp) (hr : Room (j + 1) X.A) (hg : Gl X x) (hm : X.mg x = some (.ref C))
    (hb : ∀ (s : Shared) (x : Value) (us ws : List Value), X.K.In s.heap → us.length = 0 → ws.length = ks.length → BindsTo s fd ⟨x :: us, ks.zip ws⟩ (ps.zip (x :: gg us ws)))
    (hrel : ∀ {vs : List V} {us : List Value} {zs : List V} {ws : List Value}, Vals vs us → Vals zs ws → Vals (gV vs zs) (gg us ws)) (hx : ∀ σ, PassesAt CX X σ (E σ))
    (hkw : PK X kws tk) (hks : kws.map (·.arg) = ks.map some) (hdb : (x == ("__debug__" : Str)) = false) :
    PE X (.Call (.Name x p) [] kws pos) (tMkS C 0 ks.length sp gV E tNil tk) := by
  obtain ⟨k1, k2, k3⟩ := kw_names (env := X.env) (pos := pos) hks
  refine ⟨fun pins s σ H Q I h => ?_⟩
  refine wpAny_Call_Name_kw (ld_glob I hg hm ?_ hdb)
  refine PySem.W.callWith_KW0 (h₀ := X.base) I.ok.mod.kin M.kp k1 (thn (hkw.run pos pins s σ H _ I h) fun ws s2 ⟨zs, H2, I2, rz, l1, l2, q2⟩ => ⟨I2.kIn, ?_⟩) (by show (false || (backToKw pos (keywordEach kws X.env)).any (·.1.isNone)) = false; rw [k3] <;> rfl)
  rw [k2]
  exact run_mkS (us := []) (vs := []) M F hr hb hrel (hx σ) I2 .nil rz rfl l2 q2
end
/-- the new object, its __init__, what is left -/
theorem make_ok {W : WX} {c : Str} {keep : Bool} {f : Sem} {xs : List D} {vs : List V} {Q : VK} {σ : L2.St} {m : Nat} (hc : c ∈ B.cls) (s : Sim B ρ S H) (rl : RepL B ρ H xs vs) (hm : vs.length + 1 = m) (gg : Go B ρ H (makeD c keep f xs S) (KV1 B Q) (KX B W σ)) :
    ∀ x dx, H x = none → H dx = none → dx ≠ x → spOf B f m (.ref x :: vs) (upd (upd H dx (.own x)) x (.ins (He.ga B.K c) dx [])) (fun v H3 => v = .non ∧ Q (.ref x) H3) (WE W σ) := by
  intro x dx nx ndx ne
  have e1 := Ext.alloc s (.own x) ndx
  have s1 := s.alloc (.own x) ndx
  have nx1 : (upd H dx (.own x)) x = none := by rw [upd_ne (Ne.symm ne)]; exact nx
  have e2 := Ext.allocC s1 (.ins (He.ga B.K c) dx []) nx1
  have s2 : Sim B (ρ.more x) (S ++ [.ins c []]) (upd (upd H dx (.own x)) x (.ins (He.ga B.K c) dx [])) := s1.allocC nx1 (.ins hc upd_same .nil)
  have e12 := e1.trans e2
  have at_ : (ρ.more x).at S.length = some x := by
    have := more_at ρ x
    rw [s.len] at this
    exact this
  refine ⟨ρ.more x, S ++ [.ins c []], .cell S.length :: xs, s2, .cons (.cell at_) (rl.mono e12), by simpa using hm, ?_⟩
  unfold makeD at gg
  cases e : f (.cell S.length :: xs) (S ++ [.ins c []]) with
  | stuck => rw [e] at gg; exact gg.elim
  | ok d S' =>
    rw [e] at gg
    intro ρ' H' e3 s3 v r
    cases d with
    | non =>
      cases r
      exact ⟨rfl, ret_ok s (e12.trans e3) s3 (.cell (e3.at_ at_)) gg⟩
    | _ => exact gg.elim
  | exc x' S' =>
    rw [e] at gg
    intro ρ' H' e3 s3 cls dd rx
    exact exc_ok (Q := Q) s (e12.trans e3) s3 rx gg
theorem snd_mk (c : Str) (keep : Bool) (n : Nat) (f : Sem) (es : E) (ok : MkSem g k c n f) (i1 : Snd g k N es) : Snd g k N (.mk c keep n f es) := by
  refine Snd.mk1 (f := _) rfl rfl fun {X W e} cx hN h => ?_
  cases e with
  | Call fn ys kws p =>
    cases fn with
    | Name x q =>
      match ys, kws, h with
      | y :: ys, [], h =>
        obtain ⟨h1, h2⟩ := band (show (decide (c = x) && (nameOk X.env.scope x && (chk N es).a X.env.scope (y :: ys))) = true from h)
        obtain ⟨h2, h3⟩ := band h2
        have : c = x := of_decide_eq_true h1
        subst this
        obtain ⟨hg, hd, _⟩ := gl_of h2
        obtain ⟨fa, fd, ps, hc, hl, hm, M, hb, j, hj, F⟩ := ok
        obtain ⟨pa, ns⟩ := i1.a (W := W) cx hN h3
        have ns0 := ns
        rw [List.all_cons] at ns
        obtain ⟨n1, n2⟩ := band ns
        refine PE.imp (pe_mkS (E := WE W) (n := n) (C := He.ga g.B.K c) (f := fa) (by rw [cx.K]; exact M) (ctx_fn cx F) (cx.room.mono hj) hg (by rw [cx.mg]; exact hm) (by rw [cx.K]; exact hb) hl (ctx_pass cx) pa hd (star_cons n1) (star_any n2)) fun σ H Q ⟨ρ, env, S, hs, s, gg⟩ => ?_
        refine subA hs s gg fun ds vs ρ1 S1 H1 e1 hs1 s1 rl g1 => ?_
        by_cases cc : ds.length = n
        · rw [if_pos cc] at g1
          have lv : vs.length = n := by rw [← rl.len, cc]
          exact ⟨lv, make_ok hc s1 rl (by rw [lv, hl]) g1⟩
        · rw [if_neg cc] at g1
          exact g1.elim
      | [], _, h => cases h
      | _ :: _, _ :: _, h => cases h
    | _ => cases h
  | _ => cases h
theorem snd_mkk (c : Str) (keep : Bool) (f : Sem) (n : Nat) (ks : List Str) (gl : List Nat) (es kes : E) (ok : MkkSem g k c f n ks gl) (i1 : Snd g k N es) (i2 : Snd g k N kes) : Snd g k N (.mkk c keep f n ks gl es kes) := by
  refine Snd.mk1 (f := _) rfl rfl fun {X W e} cx hN h => ?_
  cases e with
  | Call fn ys kws p =>
    cases fn with
    | Name x q =>
      obtain ⟨h1, h2⟩ := band (show (decide (c = x) && (nameOk X.env.scope x && (decide (ys.length = n) && (!kws.isEmpty && ((chk N es).a X.env.scope ys && (chk N kes).kw X.env.scope ks kws))))) = true from h)
      obtain ⟨h2, h3⟩ := band h2
      obtain ⟨h3, h4⟩ := band h3
      obtain ⟨_, h4⟩ := band h4
      obtain ⟨h4, h5⟩ := band h4
      have : c = x := of_decide_eq_true h1
      subst this
      have hn : ys.length = n := of_decide_eq_true h3
      obtain ⟨hg, hd, _⟩ := gl_of h2
      obtain ⟨fa, fd, ps, hc, hm, mk, hb, hgl, j, hj, F⟩ := ok
      obtain ⟨pk, hks⟩ := i2.kw (W := W) cx hN h5
      have hb' : ∀ (s : Shared) (x : Value) (us ws : List Value), X.K.In s.heap → us.length = n → ws.length = ks.length → BindsTo s fd ⟨x :: us, ks.zip ws⟩ (ps.zip (x :: gl.map fun i => (us ++ ws).getD i .none)) := by
        rw [cx.K]
        intro s x us ws hK l1 l2
        exact hb s (x :: us) ws hK (by rw [List.length_cons, l1]) l2
      have fin : ∀ {σ : L2.St} {ρ1 : Rh} {H1 : Hp} {S1 : Store} {Q : VK} {ds es : List D} {vs ws : List V}, Sim g.B ρ1 S1 H1 → RepL g.B ρ1 H1 ds vs → RepL g.B ρ1 H1 es ws → Go g.B ρ1 H1 (M.bind (M.opt ((gl.map fun i => (ds ++ es)[i]?).mapM id)) (fun zs => makeD c keep f zs) S1) (KV1 g.B Q) (KX g.B W σ) →
          ∀ x dx, H1 x = none → H1 dx = none → dx ≠ x → spOf g.B f ps.length (.ref x :: gl.map fun i => (vs ++ ws).getD i .non) (upd (upd H1 dx (.own x)) x (.ins (He.ga g.B.K c) dx [])) (fun v H3 => v = .non ∧ Q (.ref x) H3) (WE W σ) := by
        intro σ ρ1 H1 S1 Q ds es vs ws s1 r1 r2 gg
        obtain ⟨zs, ez, g2⟩ := go_opt (Go.bindM gg)
        exact make_ok hc s1 (getD_rep (r1.append r2) gl zs ez) (by rw [List.length_map]; exact hgl) (Go.now s1 g2)
      cases ys with
      | nil =>
        have hes := a_nil h4
        subst hes
        have hn0 : n = 0 := hn.symm
        subst hn0
        refine PE.imp (pe_mkK0 (E := WE W) (C := He.ga g.B.K c) (f := fa) (gg := fun us ws => gl.map fun i => (us ++ ws).getD i .none) (gV := fun vs ws => gl.map fun i => (vs ++ ws).getD i .non) (by rw [cx.K]; exact mk) (ctx_fn cx F) (cx.room.mono hj) hg (by rw [cx.mg]; exact hm) hb' (fun r1 r2 => getD_map (Vals.append r1 r2) gl) (ctx_pass cx) pk hks hd) fun σ H Q ⟨ρ, env, S, hs, s, gg⟩ => ?_
        have gg : Go g.B ρ H (M.bind (evA kes env) (fun ys => if ([] : List D).length = 0 ∧ ys.length = ks.length then M.bind (M.opt ((gl.map fun i => ([] ++ ys)[i]?).mapM id)) fun zs => makeD c keep f zs else M.fail) S) (KV1 g.B Q) (KX g.B W σ) := gg
        refine subA hs s gg fun ds vs ρ1 S1 H1 e1 hs1 s1 rl g1 => ?_
        by_cases cc : ([] : List D).length = 0 ∧ ds.length = ks.length
        · rw [if_pos cc] at g1
          exact ⟨rfl, by rw [← rl.len]; exact cc.2, fin s1 .nil rl g1⟩
        · rw [if_neg cc] at g1
          exact g1.elim
      | cons y ys =>
        obtain ⟨pa, ns⟩ := i1.a (W := W) cx hN h4
        refine PE.imp (pe_mkK1 (E := WE W) (C := He.ga g.B.K c) (f := fa) (gg := fun us ws => gl.map fun i => (us ++ ws).getD i .none) (gV := fun vs ws => gl.map fun i => (vs ++ ws).getD i .non) (by rw [cx.K]; exact mk) (ctx_fn cx F) (cx.room.mono hj) hg (by rw [cx.mg]; exact hm) hb' (fun r1 r2 => getD_map (Vals.append r1 r2) gl) (ctx_pass cx) ns pa pk hks hd) fun σ H Q ⟨ρ, env, S, hs, s, gg⟩ => ?_
        refine subA hs s gg fun ds vs ρ1 S1 H1 e1 hs1 s1 rl g1 => ?_
        refine subA hs1 s1 g1 fun ds2 vs2 ρ2 S2 H2 e2 hs2 s2 rl2 g2 => ?_
        by_cases cc : ds.length = n ∧ ds2.length = ks.length
        · rw [if_pos cc] at g2
          exact ⟨by rw [← rl.len]; exact cc.1, by rw [← rl2.len]; exact cc.2, fin s2 (rl.mono e2) rl2 g2⟩
        · rw [if_neg cc] at g2
          exact g2.elim
    | _ => cases h
  | _ => cases h
end Py
-- PyDs
namespace Py
open PySem PySem.Spec PyProof.Rows L2
variable {g : Gx} {k : Nat} {N : List Str} {ρ2 : Rh} {H2 : Hp}
/-! ### a dict's display -/
theorem KRep.merge : ∀ {kvs acc : List (Key × D)} {kws bcc : List (Key × V)}, KRep B ρ H acc bcc → KRep B ρ H kvs kws → KRep B ρ H (mergeD acc kvs) (mergeK bcc kws)
  | _, _, _, _, a, .nil => a
  | p :: r, _, q :: t, _, a, .cons z zs => by
    show KRep B ρ H (mergeD (putD _ p.1 p.2) r) (mergeK (putK _ q.1 q.2) t)
    rw [← z.1]
    exact KRep.merge (KRep.put z.2 a) zs

theorem snd_pr (a b es : E) (i1 : Snd g k N a) (i2 : Snd g k N b) (i3 : Snd g k N es) : Snd g k N (.pr a b es) where
  v := fun cx n h => by cases h
  t := fun cx n h => by cases h
  a := fun cx n h => by cases h
  o := fun cx n h => by cases h
  i := fun cx n h => by cases h
  kw := fun cx n h => by cases h
  an := fun cx n h => by cases h
  on := fun cx n h => by cases h
  ant := fun cx n h => by cases h
  ont := fun cx n h => by cases h
  ifs := fun cx n h => by cases h
  prs := fun {X W pos ks vs} cx n h => by
    match ks, vs, h with
    | some x :: ks, y :: vs, h =>
      obtain ⟨h1, h2⟩ := band (show ((chk N a).v X.env.scope x && ((chk N b).v X.env.scope y && (chk N es).prs X.env.scope ks vs)) = true from h)
      obtain ⟨h2, h3⟩ := band h2
      have p1 := i1.v (W := W) cx n h1
      have p2 := i2.v (W := W) cx n h2
      have p3 := i3.prs (W := W) (pos := pos) cx n h3
      refine ⟨fun pins s0 σ H Q I ⟨ρ, env, S, hs, s, gg⟩ => ?_⟩
      have gg : Go g.B ρ H (M.bind (ev a env) (fun x => M.bind (ev b env) fun y => M.bind (evA es env) fun xs => M.pure (x :: y :: xs)) S) (KL1 g.B Q) (KX g.B W σ) := gg
      have h1 : tE g.B W a σ H fun x H1 => tE g.B W b σ H1 fun y H2 => tA g.B W es σ H2 fun xs H3 => Q (x :: y :: xs) H3 := by
        refine subE hs s gg fun d v ρ1 S1 H1 e1 hs1 s1 r g1 => ?_
        refine subE hs1 s1 g1 fun d2 v2 ρ2 S2 H2 e2 hs2 s2 r2 g2 => ?_
        refine subA hs2 s2 g2 fun ds vs ρ3 S3 H3 e3 hs3 s3 rl g3 => ?_
        exact Go.now s3 g3 _ (.cons (r.mono (e2.trans e3)) (.cons (r2.mono e3) rl))
      exact pairTrees_cons_walk (thn (p1.run pins s0 σ H _ I h1) fun u s1 ⟨x, H1, I1, rx, q1⟩ => thn (p2.run pins s1 σ H1 _ I1 q1) fun w2 s2 ⟨y, H2, I2, ry, q2⟩ =>
        thn (p3.run pins s2 σ H2 _ I2 q2) fun ws s3 ⟨ps, H3, I3, rel, q3⟩ => ⟨x :: y :: ps, H3, I3, .cons rx ry rel, q3⟩)
    | [], _, h => cases h
    | none :: _, _, h => cases h
    | some _ :: _, [], h => cases h
def flatKV : List (Key × V) → List V
  | [] => []
  | p :: r => kV p.1 :: p.2 :: flatKV r
theorem vv_of : ∀ {kvs : List (Key × V)} {ws : List (Value × Value)}, VV2 (flatKV kvs) ws → VV (kvs.map fun kv => (kV kv.1, kv.2)) ws
  | [], _, h => by
    cases h
    exact .nil
  | p :: r, _, h => by
    cases h with
    | cons h1 h2 t => exact .cons ⟨h1, h2⟩ (vv_of t)
/-- {k: v, ..} -/
def tDis (t : TA) : TE := fun σ H Q => ∀ p, H p = none → t σ (upd H p (.dK [])) fun xs H2 => H2 p = some (.dK []) ∧ ∃ kvs : List (Key × V), xs = flatKV kvs ∧ kvs.length ≤ 15 ∧ Q (.ref p) (upd H2 p (.dK (mergeK [] kvs)))
theorem pe_dis {X : Cx} {pos : Pos} {keys : List (Option PySem.Expr)} {values : List PySem.Expr} {t : TA} (h : PP X pos keys values t) (hall : keys.all (·.isSome) = true) (hl : keys.length = values.length) (h0 : keys ≠ [])
    (h15 : keys.length ≤ 15) : PE X (.Dict keys values pos) (tDis t) := by
  refine ⟨fun pins s σ H Q I q => ?_⟩
  have hn := I.hok.fresh (Nat.le_refl s.heap.objs.size)
  have I1 := I.laid (a := s.heap.objs.size) (o := .dK []) (h' := s.heap.push { cls := .type "dict", data := .dict #[] }) (t' := s.toks) (fun _ _ q => Heap.get?_push_of_some _ q) (Nat.le_refl _) (dk_empty s.heap I.big)
  refine wpAny_Dict_walk (knd := mixKind X.prog X.w) hall hl h0 h15 (thn (h.run pins _ σ _ _ I1 (q _ hn)) fun ws s2 ⟨ps, H2, I2, rel, e, kvs, ep, lk, q2⟩ => ?_)
  subst ep
  obtain ⟨rs, c, rk⟩ := carries_of (P := X.prog) (w := X.w) (vv_of rel)
  obtain ⟨z, hd, vs0, r0, dd⟩ := dk_of I2.hok e
  cases r0
  refine ⟨rs, c, dd, fun h' dd' hs => ⟨.ref s.heap.objs.size, _, ?_, rfl, q2⟩⟩
  have hz : (mergeK [] kvs).length ≤ sizeLine := by
    have h1 := length_mergeK kvs []
    rw [List.length_nil] at h1
    rw [sizeLine_eq]; omega
  have he : ∃ q, h'.get? s.heap.objs.size = some q := let ⟨q, _, _, hq, _⟩ := dd'; ⟨q, hq⟩
  exact d_write I2 (by rw [e]; exact True.intro) hs he (dk_new hz hd (rk.merge .nil) dd')
theorem disOf_rep : ∀ {xs : List D} {kvs : List (Key × D)} {vs : List V}, disOf xs = some kvs → RepL B ρ H xs vs → ∃ kws, vs = flatKV kws ∧ KRep B ρ H kvs kws ∧ kws.length = kvs.length
  | [], _, _, e, r => by
    cases e
    cases r
    exact ⟨[], rfl, .nil, rfl⟩
  | [_], _, _, e, _ => by cases e
  | x :: y :: r, kvs, _, e, .cons a (.cons b t) => by
    have e : (match keyOf x, disOf r with
      | some q, some s => some ((q, y) :: s)
      | _, _ => none) = some kvs := e
    cases e1 : keyOf x with
    | none => rw [e1] at e; cases e
    | some q =>
      cases e2 : disOf r with
      | none => rw [e1, e2] at e; cases e
      | some s =>
        rw [e1, e2] at e
        cases e
        obtain ⟨kws, rfl, kr, l⟩ := disOf_rep e2 t
        refine ⟨(q, _) :: kws, ?_, .cons ⟨rfl, b⟩ kr, by rw [List.length_cons, List.length_cons, l]⟩
        rw [flatKV, ← keyOf_rep e1 a]
theorem dis_end {rs : List (Key × D)} {acc : List (Key × V)} {p : Addr} {Q : VK} {kx : Exn → Rh → Store → Hp → Prop} (mid : Mid ρ H p ρ' H') (s' : Sim B ρ' S' H') (hD : H' p = some (.dK acc)) (rd : KRep B ρ' H' rs acc) (nD : H p = none) (fin : Go B ρ H (mkD rs S') (KV1 B Q) kx) : Q (.ref p) H' := by
  have ss := s'.show
  have rdS : KRep B ρ'.show H' rs acc := rd.move Mv.show
  refine fin (ρ'.show.more p) H' ⟨?_, ?_, ?_, mid.ex.keep, mid.ex.same, mid.ex.frz⟩ (s'.reveal mid.z (.dic hD rd)) _ (.cell ?_)
  · obtain ⟨t, et⟩ := mid.ex.pre
    exact ⟨t ++ [p], by show ρ'.show.c ++ [p] = _; rw [et, List.append_assoc]⟩
  · exact mid.ex.hid
  · intro a mm n
    rcases mm with mm | mm
    · rcases List.mem_append.mp mm with mm | mm
      · exact mid.ex.new a (.inl mm) n
      · have : a = p := by simpa using mm
        subst this
        exact nD
    · exact mid.ex.new a (.inr mm) n
  · have := more_at ρ'.show p
    rw [show ρ'.show.c.length = _ from s'.len] at this
    exact this
theorem snd_dis (es : E) (i1 : Snd g k N es) : Snd g k N (.dis es) := by
  refine Snd.mk1 (f := _) rfl rfl fun {X W e} cx hN h => ?_
  cases e with
  | Dict ks vs pos =>
    obtain ⟨h1, h2⟩ := band (show (ks.all (·.isSome) && (decide (ks.length = vs.length) && (!ks.isEmpty && (decide (ks.length ≤ 15) && (chk N es).prs X.env.scope ks vs)))) = true from h)
    obtain ⟨h2, h3⟩ := band h2
    obtain ⟨h3, h4⟩ := band h3
    obtain ⟨h4, h5⟩ := band h4
    refine PE.imp (pe_dis (i1.prs (W := W) cx hN h5) h1 (of_decide_eq_true h2) (by
      intro z
      rw [z] at h3
      cases h3) (of_decide_eq_true h4)) fun σ H Q ⟨ρ, env, S, hs, s, gg⟩ => ?_
    have gg : Go g.B ρ H (M.bind (M.nox (evA es env)) disM S) (KV1 g.B Q) (KX g.B W σ) := gg
    intro p np
    cases er : evA es env S with
    | stuck =>
      have g1 := Go.bindM gg
      rw [show M.nox (evA es env) S = .stuck by unfold M.nox; rw [er]] at g1
      exact g1.elim
    | exc x S2 =>
      have g1 := Go.bindM gg
      rw [show M.nox (evA es env) S = .stuck by unfold M.nox; rw [er]] at g1
      exact g1.elim
    | ok xs S2 =>
      rw [M.bind_of (show M.nox (evA es env) S = .ok xs S2 by unfold M.nox; rw [er])] at gg
      have m0 := Mid.start s (.dK []) np
      have nρ : p ∉ ρ := s.fresh np
      have hs1 : RepS g.B (ρ.hide p) (upd H p (.dK [])) env σ := ⟨hs.1, fun j d q => let ⟨v, a, b⟩ := hs.2 j d q; ⟨v, a, b.move (m0.mv np)⟩⟩
      refine ⟨ρ.hide p, env, S, hs1, s.hide _ np, ?_⟩
      show Go g.B (ρ.hide p) (upd H p (.dK [])) (evA es env S) (KL1 g.B _) _
      rw [er]
      intro ρ1 H1 e1 s1 vs rl
      have mid := m0.go e1 np
      have hz : p ∈ (ρ.hide p).z := List.mem_cons_self
      have hp : H1 p = some (.dK []) := by
        rw [e1.same p hz]
        exact upd_same
      refine ⟨hp, ?_⟩
      cases ek : disOf xs with
      | none =>
        rw [show disM xs S2 = .stuck by unfold disM; rw [ek]; rfl] at gg
        exact gg.elim
      | some kvs =>
        by_cases c : decide (kvs.length ≤ 15) = true
        · rw [show disM xs S2 = mkD (mergeD [] kvs) S2 by
            unfold disM
            rw [ek]
            show (if decide (kvs.length ≤ 15) = true then mkD (mergeD [] kvs) else M.fail) S2 = _
            rw [if_pos c]] at gg
          obtain ⟨kws, rfl, kr, l⟩ := disOf_rep ek rl
          refine ⟨kws, rfl, by rw [l]; exact of_decide_eq_true c, ?_⟩
          have hz1 : p ∈ ρ1.z := by rw [mid.z]; exact List.mem_cons_self
          refine dis_end (rs := mergeD [] kvs) (mid.write _ np nρ) (s1.hwrite _ hz1) upd_same ?_ np gg
          exact (KRep.merge .nil kr).move (Mv.hwrite _ hz1)
        · rw [show disM xs S2 = .stuck by
            unfold disM
            rw [ek]
            show (if decide (kvs.length ≤ 15) = true then mkD (mergeD [] kvs) else M.fail) S2 = _
            rw [if_neg c] <;> rfl] at gg
          exact gg.elim
  | _ => cases h
/-! ### an own == -/
theorem op_eqm {W : WX} {c : Str} {f : Sem} (G : GOk g) (cx : Ctx g k X W) (ok : EqSem g k c f) : OpR X (compareOp .Eq) (r2 g.B (eqM c f)) := by
  intro pins s0 σ H x y v u Q I rx ry ⟨ρ, S, d1, d2, kx, s, r1, r2', gg⟩
  unfold eqM at gg
  cases ty : tyD S d1 with
  | none =>
    rw [ty] at gg
    exact op_cmp_eq (ctx_u64 cx) pins s0 σ H x y v u Q I rx ry (r2.mk s r1 r2' gg)
  | some t =>
    cases t with
    | b n =>
      rw [ty] at gg
      exact op_cmp_eq (ctx_u64 cx) pins s0 σ H x y v u Q I rx ry (r2.mk s r1 r2' gg)
    | c c' =>
      rw [ty] at gg
      have gB : Go g.B ρ H (if c' = c ∧ (tyD S d2).isSome = true then (match f [d1, d2] S with
        | .ok (.bl b) S' => .ok (.bl b) S'
        | _ => .stuck) else .stuck) (KV1 g.B Q) kx := gg
      clear gg
      by_cases h : c' = c ∧ (tyD S d2).isSome = true
      · rw [if_pos h] at gB
        obtain ⟨rfl, h2⟩ := h
        obtain ⟨t2, ty2⟩ := Option.isSome_iff_exists.mp h2
        obtain ⟨fa, fd, ps, hc, hl, hs, hf, hb, hno, F⟩ := ok
        obtain ⟨x2, m2⟩ := ty_ok G s r2' ty2
        -- the left one is an object
        have left : ∃ a dx fs, x = .ref a ∧ H a = some (.ins (He.ga g.B.K c') dx fs) := by
          cases r1 with
          | @ins a dx c ns ds vs z n q l rl =>
            cases ty
            exact ⟨_, _, _, rfl, q⟩
          | @cell n a ha =>
            obtain ⟨cv, e, cr⟩ := s.get ha
            cases cv with
            | lst xs => simp only [tyD, e] at ty; cases ty
            | dic lk kvs => simp only [tyD, e] at ty; cases ty
            | ins c fs =>
              simp only [tyD, e] at ty
              cases ty
              cases cr with
              | ins z q r => exact ⟨_, _, _, rfl, q⟩
          | _ => cases ty
        obtain ⟨a, dx, fs, rfl, ea⟩ := left
        obtain rfl : v = Value.ref a := rx
        obtain ⟨mA, J, _⟩ := ins_get I.hok ea
        obtain ⟨od, J, _⟩ := J.look
        obtain ⟨m, hF⟩ := I.fr
        obtain ⟨P, Z, p, _⟩ := kit_of I ry (by rw [cx.K]; exact x2)
        have F' := ctx_fn cx F
        refine PySem.W.cmp_K (op := .Eq) (tb := clV g.B.K t2) cx.room.units0 hF I.ok.mod.kin J (Z.ty _ _ I.kIn p) (by rw [cx.K]; exact hno t2 m2) (by rw [cx.K]; exact hs) (by rw [cx.K]; exact hf) ?_
        have hsp : spOf g.B f ps.length [.ref a, y] H (fun z H' => ∃ b, z = .bl b ∧ Q (.bl b) H') (fun _ _ _ => False) := by
          refine ⟨ρ, S, [d1, d2], s, .cons r1 (.cons r2' .nil), hl.symm, ?_⟩
          cases e : f [d1, d2] S with
          | stuck => rw [e] at gB; exact gB.elim
          | exc x S' => rw [e] at gB; exact gB.elim
          | ok d S' =>
            rw [e] at gB
            cases d with
            | bl b =>
              intro ρ' H' e1 s1 v rv
              cases rv
              exact ⟨b, rfl, gB ρ' H' e1 s1 _ (.bl b)⟩
            | _ => exact gB.elim
        have r2 : Vals [V.ref a, y] [Value.ref a, u] := .cons rfl (.cons ry .nil)
        refine wpAny_call (codeAny_mono (F'.run X.A X.stack s0 H ⟨[.ref a, u], []⟩ [.ref a, u] [.ref a, y] _ (fun _ _ _ => False) cx.room I.env0 (by
          have := hb s0 [.ref a, u] (by rw [← cx.K]; exact I.kIn) (by simpa using hl.symm)
          simpa using this) r2 hsp) fun r s' hq => ?_)
        cases r with
        | error e =>
          obtain ⟨_, _, _, _, _, _, _, _, _, _, _, _, z⟩ := hq
          exact z.elim
        | ok fl =>
          cases fl with
          | ret w =>
            obtain ⟨z, H', I', rz, ez, q⟩ := I.after hq
            obtain ⟨rfl, q⟩ := q
            cases rz
            exact ⟨.bl _, H', I', rfl, q⟩
          | next => exact False.elim hq
          | brk => exact False.elim hq
          | cont => exact False.elim hq
      · rw [if_neg h] at gB
        exact gB.elim
theorem eqm_bool {c : Str} {f : Sem} {a b d : D} (h : eqM c f a b S = .ok d S') : ∃ q, d = .bl q := by
  unfold eqM at h
  repeat' split at h
  all_goals first
    | exact cmp_bool (c := .eq) h
    | (cases h; done)
    | (cases h; exact ⟨_, rfl⟩)
theorem eqm_noexc {c : Str} {f : Sem} {a b : D} {x : Exn} (h : eqM c f a b S = .exc x S') : False := by
  unfold eqM at h
  repeat' split at h
  all_goals first
    | exact cmp_noexc (c := .eq) h
    | (cases h; done)
theorem eqm_test {c : Str} {f : Sem} {x y : V} {d1 d2 : D} {Q : Bool → Hp → Prop} {W : WX} (s : Sim B ρ S H) (h1 : Rep B ρ H d1 x) (h2 : Rep B ρ H d2 y) (gg : Go B ρ H (M.bind (eqM c f d1 d2) tru S) (fun b _ _ H' => Q b H') (KX B W σ)) :
    r2 B (eqM c f) x y H fun v H' => ∃ kk, v = .bl kk ∧ Q kk H' := by
  refine r2.mk (kx := KX B W σ) s h1 h2 ?_
  have g1 := Go.bindM gg
  cases e : eqM c f d1 d2 S with
  | ok d S1 =>
    rw [e] at g1
    obtain ⟨q, rfl⟩ := eqm_bool e
    exact fun ρ' H' e1 s1 v r => by
      cases r
      exact ⟨q, rfl, Go.now s1 (g1 ρ' H' e1 s1)⟩
  | exc z S1 => exact (eqm_noexc e).elim
  | stuck => rw [e] at g1; exact g1.elim
theorem snd_eqm (c : Str) (f : Sem) (a b : E) (G : GOk g) (ok : EqSem g k c f) (i1 : Snd g k N a) (i2 : Snd g k N b) : Snd g k N (.eqm c f a b) := by
  refine Snd.mk2 (f := _) (ft := _) rfl (fun _ => rfl) (fun {X W e} cx n h => ?_) (fun {X W e} cx n h => ?_)
  all_goals
    cases e with
    | Compare a' os bs p =>
      match os, bs, h with
      | [.Eq], [b'], h =>
        obtain ⟨h2, h3⟩ := band (show (!behindInMarks .Eq b' && ((chk N a).v X.env.scope a' && (chk N b).v X.env.scope b')) = true from h)
        obtain ⟨h3, h4⟩ := band h3
        first
          | (refine PE.imp (pe_cmpR (op_eqm G cx ok) (i1.v cx n h3) (i2.v cx n h4) (by simpa using h2)) fun σ H Q ⟨ρ, env, S, hs, s, gg⟩ => ?_
             refine subE hs s gg fun x v ρ1 S1 H1 e1 hs1 s1 r1 g1 => ?_
             refine subE hs1 s1 g1 fun y u ρ2 S2 H2 e2 hs2 s2 r2' g2 => ?_
             exact r2.mk s2 (r1.mono e2) r2' g2)
          | (refine PT.imp (pt_cmpR (op_eqm G cx ok) (i1.v cx n h3) (i2.v cx n h4) (by simpa using h2)) fun σ H Q ⟨ρ, env, S, hs, s, gg⟩ => ?_
             have gg : Go g.B ρ H (M.bind (M.bind (ev a env) fun x => M.bind (ev b env) fun y => eqM c f x y) tru S) (fun b _ _ H' => Q b H') (KX g.B W σ) := gg
             rw [M.bind_assoc] at gg
             refine subE hs s gg fun x v ρ1 S1 H1 e1 hs1 s1 r1 g1 => ?_
             rw [M.bind_assoc] at g1
             refine subE hs1 s1 g1 fun y u ρ2 S2 H2 e2 hs2 s2 r2' g2 => ?_
             exact eqm_test s2 (r1.mono e2) r2' g2)
      | [], _, h => cases h
      | [.Eq], [], h => cases h
      | [.Eq], _ :: _ :: _, h => cases h
      | .Eq :: _ :: _, _, h => cases h
      | .NotEq :: _, _, h => cases h
      | .Lt :: _, _, h => cases h
      | .LtE :: _, _, h => cases h
      | .Gt :: _, _, h => cases h
      | .GtE :: _, _, h => cases h
      | .Is :: _, _, h => cases h
      | .IsNot :: _, _, h => cases h
      | .In :: _, _, h => cases h
      | .NotIn :: _, _, h => cases h
    | _ => cases h
end Py
-- PyN
namespace Py
open PySem PySem.Spec PyProof.Rows L2
variable {g : Gx} {k : Nat} {N : List Str}
theorem tgNames_ix (N : List Str) : ∀ is : List Nat, (tgNames N is).map (·.2) = is
  | [] => rfl
  | i :: is => by
    show i :: (tgNames N is).map (·.2) = i :: is
    rw [tgNames_ix N is]
theorem ctx_blk {W : WX} (cx : Ctx g k X W) (s : Shared) (H : Hp) (scope : Scope) (env : PySem.Env) (fp : List Addr) : Ctx g k (X.blk s H scope env fp) W0 :=
  ⟨cx.prog, cx.w, cx.K, cx.mg, cx.base, cx.calm, cx.nd, cx.room, takes_none5⟩
theorem own_loc {scope sc : Scope} {x : Str} (h : locB scope x = true) : (scope.names.lookup x == some .cell) = true ∨ (relS scope sc).names.lookup x = some .local := by
  unfold locB at h
  cases e : scope.names.lookup x with
  | none => rw [e] at h; cases h
  | some kk =>
    rw [e] at h
    cases kk with
    | «local» => exact .inr (lookup_relS_keep (by simp) e)
    | cell => exact .inl rfl
    | _ => cases h
theorem snd_lc (m : Bool) (tg : Tg) (it c e : E) (i1 : Snd g k N it) (i2 : Snd g k N c) (i3 : Snd g k N e) : Snd g k N (.lc m tg it c e) := by
  refine Snd.mk1 (f := _) rfl rfl fun {X W x} cx hN h => ?_
  cases x with
  | ListComp elt gs scope p =>
    have shape : ∃ tg' iter ifs, gs = [⟨tg', iter, ifs, 0⟩] ∧ (blkC N X.env.scope scope (tgNames N tg.slots) && (ownB scope tg' && chkT N (relS scope X.env.scope) tg tg' && ((chk N it).i X.env.scope tg' iter && ((chk N c).ifs (relS scope X.env.scope) ifs && (chk N e).v (relS scope X.env.scope) elt)))) = true := by
      have h : (match (PySem.Expr.ListComp elt gs scope p) with
        | .ListComp elt [⟨tg', iter, ifs, 0⟩] scope _ => blkC N X.env.scope scope (tgNames N tg.slots) && (ownB scope tg' && chkT N (relS scope X.env.scope) tg tg' && ((chk N it).i X.env.scope tg' iter && ((chk N c).ifs (relS scope X.env.scope) ifs && (chk N e).v (relS scope X.env.scope) elt)))
        | _ => false) = true := h
      split at h
      · rename_i e1
        cases e1
        exact ⟨_, _, _, rfl, h⟩
      · cases h
    obtain ⟨tg', iter, ifs, rfl, h⟩ := shape
    · obtain ⟨h1, h2⟩ := band (show (blkC N X.env.scope scope (tgNames N tg.slots) && (ownB scope tg' && chkT N (relS scope X.env.scope) tg tg' && ((chk N it).i X.env.scope tg' iter && ((chk N c).ifs (relS scope X.env.scope) ifs && (chk N e).v (relS scope X.env.scope) elt)))) = true from h)
      obtain ⟨h2, h3⟩ := band h2
      obtain ⟨h2, h2'⟩ := band h2
      obtain ⟨h3, h4⟩ := band h3
      obtain ⟨h4, h5⟩ := band h4
      obtain ⟨pi, ns⟩ := i1.i (W := W) cx hN h3
      have ok : BlkOk X.N X.env.scope scope (tgNames N tg.slots) := by rw [hN]; exact blkOk_by h1
      have hp := pe_lc (X := X) (elt := elt) (tg := tg') (iter := iter) (ifs := ifs) (scope := scope) (pos := p) (g := gT g.B tg) (tt := tT g.B W0 c) (te := tE g.B W0 e) cx.calm cx.nd pi ok
        (fun s H C cl fp => pg_tg (ctx_blk cx s H scope _ fp) (show chkT X.N (relS scope X.env.scope) tg tg' = true by rw [hN]; exact h2') ?_)
        (fun s H C cl fp => i2.ifs (ctx_blk cx s H scope _ fp) hN h4) (fun s H C cl fp => i3.v (ctx_blk cx s H scope _ fp) hN h5) (set_none ns)
      · rw [tgNames_ix] at hp
        exact PE.imp hp fun σ H Q z => lc_ok z
      · cases tg' with
        | Name y q => exact own_loc (sc := X.env.scope) (show locB scope y = true from h2)
        | Tuple es j q =>
          intro z hz y r ez
          subst ez
          have := List.all_eq_true.mp (show (es.all fun e => match e with
            | .Name x _ => locB scope x
            | _ => false) = true from h2) _ hz
          exact own_loc (sc := X.env.scope) this
        | _ => exact True.intro
  | _ => cases h
theorem snd_lcd (m : Bool) (tg : Tg) (i : Nat) (c e : E) (i2 : Snd g k N c) (i3 : Snd g k N e) : Snd g k N (.lcd m tg i c e) := by
  refine Snd.mk1 (f := _) rfl rfl fun {X W x} cx hN h => ?_
  cases x with
  | ListComp elt gs scope p =>
    have shape : ∃ tg' y q ifs, gs = [⟨tg', .Name y q, ifs, 0⟩] ∧ (varOk N X.env.scope i y && (blkC N X.env.scope scope (tgNames N tg.slots) && (ownB scope tg' && chkT N (relS scope X.env.scope) tg tg' && ((chk N c).ifs (relS scope X.env.scope) ifs && (chk N e).v (relS scope X.env.scope) elt)))) = true := by
      have h : (match (PySem.Expr.ListComp elt gs scope p) with
        | .ListComp elt [⟨tg', .Name y _, ifs, 0⟩] scope _ => varOk N X.env.scope i y && (blkC N X.env.scope scope (tgNames N tg.slots) && (ownB scope tg' && chkT N (relS scope X.env.scope) tg tg' && ((chk N c).ifs (relS scope X.env.scope) ifs && (chk N e).v (relS scope X.env.scope) elt)))
        | _ => false) = true := h
      split at h
      · rename_i e1
        cases e1
        exact ⟨_, _, _, _, rfl, h⟩
      · cases h
    obtain ⟨tg', y, q, ifs, rfl, h⟩ := shape
    obtain ⟨h0, h⟩ := band h
    obtain ⟨h1, h2⟩ := band h
    obtain ⟨h2, h4⟩ := band h2
    obtain ⟨h2, h2'⟩ := band h2
    obtain ⟨h4, h5⟩ := band h4
    obtain ⟨v1, v2⟩ := band (show (decide (N[i]? = some y) && (visB X.env.scope y && !oddB y)) = true from h0)
    obtain ⟨v2, v3⟩ := band v2
    obtain ⟨o1, o2, _⟩ := odd_of v3
    have ok : BlkOk X.N X.env.scope scope (tgNames N tg.slots) := by rw [hN]; exact blkOk_by h1
    have hp := pe_lc (X := X) (elt := elt) (tg := tg') (iter := .Name y q) (ifs := ifs) (scope := scope) (pos := p) (g := gT g.B tg) (tt := tT g.B W0 c) (te := tE g.B W0 e) cx.calm cx.nd (pi_keys (pe_var (i := i) (by rw [hN]; exact of_decide_eq_true v1) (vis_of v2) o1 o2)) ok
      (fun s H C cl fp => pg_tg (ctx_blk cx s H scope _ fp) (show chkT X.N (relS scope X.env.scope) tg tg' = true by rw [hN]; exact h2') ?_)
      (fun s H C cl fp => i2.ifs (ctx_blk cx s H scope _ fp) hN h4) (fun s H C cl fp => i3.v (ctx_blk cx s H scope _ fp) hN h5) (set_none (e := .Name y q) rfl)
    · rw [tgNames_ix] at hp
      refine PE.imp (pe_lock hp) fun σ H Q ⟨ρ, env, S, hs, s, gg⟩ => ?_
      have gg : Go g.B ρ H (match (env[i]?).bind id with
        | some (.cell n) => lcdM m n (lcF tg c e env) S
        | _ => .stuck : Out Py.D) (KV1 g.B Q) (KX g.B W σ) := gg
      cases eo : (env[i]?).bind id with
      | none => rw [eo] at gg; exact gg.elim
      | some d =>
        rw [eo] at gg
        cases d with
        | cell n =>
          have ee : env[i]? = some (some (.cell n)) := by
            cases q : env[i]? with
            | none => rw [q] at eo; cases eo
            | some o =>
              rw [q] at eo
              have : o = some (.cell n) := eo
              rw [this]
          obtain ⟨v, hv, r⟩ := hs.2 i _ ee
          cases r with
          | @cell _ a ha =>
            obtain ⟨cv, ec, cr⟩ := s.get ha
            have gg : Go g.B ρ H (match S[n]? with
              | some (.dic false kvs) => (match turnsW (keysS kvs) (lcF tg c e env) (keysS kvs).items (S.set n (.dic true kvs)) with
                | .ok rs S2 => if fits rs.length then mkL m rs (S2.set n (.dic false kvs)) else .stuck
                | _ => .stuck)
              | _ => .stuck : Out Py.D) (KV1 g.B Q) (KX g.B W σ) := gg
            rw [ec] at gg
            cases cv with
            | lst _ => exact gg.elim
            | ins _ _ => exact gg.elim
            | dic lk kvs =>
              cases lk with
              | true => exact gg.elim
              | false =>
                cases cr with
                | @dic _ _ kws hq kr =>
                  have gg : Go g.B ρ H (match turnsW (keysS kvs) (lcF tg c e env) (keysS kvs).items (S.set n (.dic true kvs)) with
                    | .ok rs S2 => if fits rs.length then mkL m rs (S2.set n (.dic false kvs)) else .stuck
                    | _ => .stuck : Out Py.D) (KV1 g.B Q) (KX g.B W σ) := gg
                  cases er : turnsW (keysS kvs) (lcF tg c e env) (keysS kvs).items (S.set n (.dic true kvs)) with
                  | stuck => rw [er] at gg; exact gg.elim
                  | exc x S2 => exact (turnsW_noexc er).elim
                  | ok rs S2 =>
                    rw [er] at gg
                    have gg : Go g.B ρ H (if fits rs.length then mkL m rs (S2.set n (.dic false kvs)) else .stuck : Out Py.D) (KV1 g.B Q) (KX g.B W σ) := gg
                    by_cases cf : fits rs.length = true
                    · rw [if_pos cf] at gg
                      have am : a ∈ ρ.c := List.mem_iff_getElem?.mpr ⟨n, ha⟩
                      refine ⟨a, .dK kws, hq, True.intro, fun od => ?_⟩
                      have nf : ∀ o' u, H a ≠ some (.frz o' u) := fun o' u z => by rw [hq] at z; cases z
                      have exL : Ext ρ H ρ (upd H a (.frz od (.dK kws))) := Ext.write s _ am nf
                      have krL := kr.mono exL
                      have sL := s.write (o := .frz od (.dK kws)) (c := .dic true kvs) ha (.lck upd_same krL)
                      refine ⟨.ref a, hv, a, od, rfl, .inl ⟨kws, upd_same, fun D nD => ?_⟩⟩
                      have Da : D ≠ a := fun z => by rw [z, upd_same] at nD; cases nD
                      have nD0 : H D = none := by rw [upd_ne Da] at nD; exact nD
                      refine lc_turns (Qf := fun v H' => H' a = some (.frz od (.dK kws)) ∧ Q v (upd H' a (.dK kws))) (it_keys upd_same krL) sL (hs.mono exL) nD er cf fun ρ' H' acc mid s' hD rd => ?_
                      refine ⟨mid.ex.frz _ _ _ upd_same, ?_⟩
                      have am' : ρ'.at n = some a := mid.ex.at_ ha
                      have amc : a ∈ ρ'.c := List.mem_iff_getElem?.mpr ⟨n, am'⟩
                      have mw : Mv ρ' H' ρ' (upd H' a (.dK kws)) := Mv.write _ amc
                      have s2 : Sim g.B ρ' (S2.set n (.dic false kvs)) (upd H' a (.dK kws)) := s'.write am' (.dic upd_same ((krL.move (mid.mv nD)).move mw))
                      have inv : ∀ b, b ≠ a → (upd H a (.frz od (.dK kws))) b = H b := fun b hb => upd_ne hb
                      have mid0 : Mid ρ H D ρ' (upd H' a (.dK kws)) := by
                        refine ⟨⟨mid.ex.pre, mid.ex.hid, fun b hb nb => ?_, fun b o e nb => ?_, fun b hb => ?_, fun b o u e => ?_⟩, mid.z⟩
                        · have ba : b ≠ a := fun z => nb (z ▸ .inl am)
                          rw [← inv b ba]
                          exact mid.ex.new b hb nb
                        · have ba : b ≠ a := fun z => nb (z ▸ .inl am)
                          rw [upd_ne ba]
                          exact mid.ex.keep b o (by rw [inv b ba]; exact e) nb
                        · have ba : b ≠ a := fun z => s.apart am (z ▸ hb)
                          rw [upd_ne ba, mid.ex.same b hb, inv b ba]
                        · have ba : b ≠ a := fun z => nf o u (z ▸ e)
                          rw [upd_ne ba]
                          exact mid.ex.frz b o u (by rw [inv b ba]; exact e)
                      exact lc_end mid0 s2 (by rw [upd_ne Da]; exact hD) (rd.move mw) nD0 (s.fresh nD0) gg
                    · rw [if_neg cf] at gg
                      exact gg.elim
        | _ => exact gg.elim
    · cases tg' with
      | Name y q => exact own_loc (sc := X.env.scope) (show locB scope y = true from h2)
      | Tuple es j q =>
        intro z hz y r ez
        subst ez
        have := List.all_eq_true.mp (show (es.all fun e => match e with
          | .Name x _ => locB scope x
          | _ => false) = true from h2) _ hz
        exact own_loc (sc := X.env.scope) this
      | _ => exact True.intro
  | _ => cases h
/-- every expression that is checked and leans on what holds -/
theorem snd_all (G : GOk g) : ∀ c : E, OkE g k c → Snd g k N c
  | .var i, _ => snd_var i
  | .con d, _ => snd_con d
  | .glob y d, h => snd_glob y d h
  | .no, _ => snd_no
  | .nil, _ => snd_nil
  | .cons e es, h => snd_cons e es (snd_all G e h.1) (snd_all G es h.2)
  | .tup es, h => snd_tup es (snd_all G es h)
  | .lst m es, h => snd_lst m es (snd_all G es h)
  | .edic, _ => snd_edic
  | .bin op a b, h => snd_bin op a b (snd_all G a h.1) (snd_all G b h.2)
  | .cmp op a b, h => snd_cmp op a b (snd_all G a h.1) (snd_all G b h.2)
  | .chain o o' a b c, h => snd_chain o o' a b c (snd_all G a h.1) (snd_all G b h.2.1) (snd_all G c h.2.2)
  | .neg a, h => snd_neg a (snd_all G a h)
  | .not a, h => snd_not a (snd_all G a h)
  | .and a b, h => snd_and a b (snd_all G a h.1) (snd_all G b h.2)
  | .or a b, h => snd_or a b (snd_all G a h.1) (snd_all G b h.2)
  | .ite t a b, h => snd_ite t a b (snd_all G t h.1) (snd_all G a h.2.1) (snd_all G b h.2.2)
  | .ix a b, h => snd_ix a b (snd_all G a h.1) (snd_all G b h.2)
  | .sl a lo hi, h => snd_sl a lo hi (snd_all G a h.1) (snd_all G lo h.2.1) (snd_all G hi h.2.2)
  | .rev a, h => snd_rev a (snd_all G a h)
  | .call nm n f es, h => snd_call nm n f es h.1 (snd_all G es h.2)
  | .kall nm f n ks gl es kes, h => snd_kall nm f n ks gl es kes h.1 (snd_all G es h.2.1) (snd_all G kes h.2.2)
  | .prim nm f es, h => snd_prim nm f es G h.1 (snd_all G es h.2)
  | .meth nm T f o es, h => snd_meth nm T f o es h.1 (snd_all G o h.2.1) (snd_all G es h.2.2)
  | .isi a cs one, h => snd_isi a cs one G h.1 (snd_all G a h.2)
  | .attr o f, h => snd_attr o f G h.1 (snd_all G o h.2)
  | .lc m tg it c e, h => snd_lc m tg it c e (snd_all G it h.1) (snd_all G c h.2.1) (snd_all G e h.2.2)
  | .lcd m tg i c e, h => snd_lcd m tg i c e (snd_all G c h.1) (snd_all G e h.2)
  | .rng1 a, h => snd_rng1 a G (snd_all G a h)
  | .rng2 a b, h => snd_rng2 a b G (snd_all G a h.1) (snd_all G b h.2)
  | .enum a, h => snd_enum a G (snd_all G a h)
  | .zip2 a b, h => snd_zip2 a b G (snd_all G a h.1) (snd_all G b h.2)
  | .walk kd a, h => snd_walk kd a (snd_all G a h)
  | .mk c keep n f es, h => snd_mk c keep n f es h.1 (snd_all G es h.2)
  | .mkk c keep f n ks gl es kes, h => snd_mkk c keep f n ks gl es kes h.1 (snd_all G es h.2.1) (snd_all G kes h.2.2)
  | .eqm c f a b, h => snd_eqm c f a b G h.1 (snd_all G a h.2.1) (snd_all G b h.2.2)
  | .dis es, h => snd_dis es (snd_all G es h)
  | .pr a b es, h => snd_pr a b es (snd_all G a h.1) (snd_all G b h.2.1) (snd_all G es h.2.2)
  | .addl m a b, h => snd_addl m a b (snd_all G a h.1) (snd_all G b h.2)
end Py
-- PyP
namespace Py
open PySem PySem.Spec PyProof.Rows L2
variable {g : Gx} {k : Nat} {N : List Str} {ρ2 : Rh} {H2 : Hp}
/-! ### 22. statements -/
inductive Fl where
  | nx
  | rt (d : D)
  | bk
  | ct
inductive RS where
  | ok (f : Fl) (env : Env) (S : Store)
  | exc (x : Exn) (env : Env) (S : Store)
  | stuck
def MS := Env → Store → RS
def MS.nx : MS := fun env S => .ok .nx env S
def MS.fl (f : Fl) : MS := fun env S => .ok f env S
def MS.stuck : MS := fun _ _ => .stuck
def MS.exc (x : Exn) : MS := fun env S => .exc x env S
/-- an expression, then on -/
def MS.ev {α : Type} (m : Env → M α) (f : α → MS) : MS := fun env S => match m env S with
  | .ok a S' => f a env S'
  | .exc x S' => .exc x env S'
  | .stuck => .stuck
def MS.seq (a b : MS) : MS := fun env S => match a env S with
  | .ok .nx env' S' => b env' S'
  | r => r
/-- a store into a target -/
def MS.bd (tg : Tg) (d : D) : MS := fun env S => match bindT tg d env S with
  | .ok env' S' => .ok .nx env' S'
  | _ => .stuck
/-- a turn's body, then the further turns -/
def MS.loop (b k : MS) : MS := fun env S => match b env S with
  | .ok .nx env' S' => k env' S'
  | .ok .ct env' S' => k env' S'
  | .ok .bk env' S' => .ok .nx env' S'
  | r => r
noncomputable def forW (s : Src) (tg : Tg) (b : MS) : List D → MS
  | [] => .ev (fun _ => still s) fun _ => .nx
  | d :: ds => .ev (fun _ => still s) fun _ => (MS.bd tg d).seq (b.loop (forW s tg b ds))
def whlN (c : Env → M Bool) (b : MS) : Nat → MS
  | 0 => .stuck
  | n + 1 => .ev c fun q => if q then b.loop (whlN c b n) else .nx
/-- the turns of a while, as many as it takes -/
noncomputable def whlW (c : Env → M Bool) (b : MS) : MS := fun env S => @dite _ (∃ n, whlN c b n env S ≠ .stuck) (Classical.propDecidable _) (fun h => whlN c b h.choose env S) fun _ => .stuck
/-- o[i] = v -/
def putC (c : CV) (q v : D) : Option CV := match c with
  | .lst xs => (match q with
    | .int i => (ixN xs.length i).map fun j => .lst (xs.set j v)
    | _ => none)
  | .dic false kvs => (keyOf q).bind fun y => if fits (kvs.length + 1) then some (.dic false (putD kvs y v)) else none
  | .dic true _ => none
  | .ins _ _ => none
def putO (o q v : D) : M Unit := fun S => match o with
  | .cell n => (match (S[n]?).bind fun c => putC c q v with
    | some c => .ok () (S.set n c)
    | none => .stuck)
  | _ => .stuck
/-- o.f = v -/
def setF (f : Str) (v : D) : List (Str × D) → List (Str × D)
  | [] => [(f, v)]
  | p :: r => if p.1 = f then (p.1, v) :: r else p :: setF f v r
def setO (x : D) (f : Str) (v : D) : M Unit := fun S => match x with
  | .cell n => (match S[n]? with
    | some (.ins c fs) => if fs.length < 1000 then .ok () (S.set n (.ins c (setF f v fs))) else .stuck
    | _ => .stuck)
  | _ => .stuck
/-- what an except suite may say: e the caught exception -/
inductive Xe where
  | con (d : D)
  | var (i : Nat)
  | fld (i : Nat) (f : Str)
  | isx (i : Nat) (c : Str) (b : List (Str × Bool))
  | ite (c a b : Xe)
  | nil
  | cons (e es : Xe)
  | tup (es : Xe)
  | lst (es : Xe)
/-- an except clause: the class, how it answers to the classes that may come, the name's slot, what is returned -/
structure Hd where
  c : Str
  own : Bool
  tb : List (Str × Bool)
  as : Option Nat
  e : Xe
inductive Sm where
  | nil
  | cons (s r : Sm)
  | doc
  | set (tg : Tg) (e : E)
  | par (is : List Nat) (es : E)
  | put (o i e : E)
  | sat (o : E) (f : Str) (e : E)
  | ex (e : E)
  | ite (c : E) (a b : Sm)
  | for (tg : Tg) (it : E) (b : Sm)
  | whl (c : E) (b : Sm)
  | ret (e : E)
  | retn
  | brk
  | cnt
  | pss
  | rs (c : Str) (f : List D → M Exn) (es : E)
  | try (b : Sm) (hs : List Hd)
structure Rx where
  v : Exn → Env → M D
  a : Exn → Env → M (List D)
def Rx.of (f : Exn → Env → M D) : Rx := ⟨f, fun _ _ => M.fail⟩
def xeR : Xe → Rx
  | .con d => .of fun _ _ => M.pure d
  | .var i => .of fun _ env => M.opt ((env[i]?).bind id)
  | .fld _ f => .of fun x _ => M.opt (x.fs.lookup f)
  | .isx _ _ b => .of fun x _ => M.opt ((b.lookup x.cls).map .bl)
  | .ite c a b => .of fun x env => M.bind ((xeR c).v x env) fun q => M.bind (boolOf q) fun q => if q then (xeR a).v x env else (xeR b).v x env
  | .nil => ⟨fun _ _ => M.fail, fun _ _ => M.pure []⟩
  | .cons e es => ⟨fun _ _ => M.fail, fun x env => M.bind ((xeR e).v x env) fun d => M.bind ((xeR es).a x env) fun ds => M.pure (d :: ds)⟩
  | .tup es => .of fun x env => M.bind ((xeR es).a x env) fun ds => if fits ds.length then M.pure (.tup ds) else M.fail
  | .lst es => .of fun x env => M.bind ((xeR es).a x env) fun ds => if fits ds.length then M.pure (.lst ds) else M.fail
/-- the clause's name is gone -/
def offE (o : Option Nat) (env : Env) : Env := match o with
  | some i => env.set i none
  | none => env
def onE (o : Option Nat) (env : Env) : Bool := match o with
  | some i => decide (i < env.length)
  | none => true
/-- the clauses, one behind another -/
def hdl : List Hd → Exn → MS
  | [], x => fun env S => .exc x env S
  | h :: hs, x => match h.tb.lookup x.cls with
    | some true => fun env S => if onE h.as env then (match (xeR h.e).v x (offE h.as env) S with
      | .ok d S' => .ok (.rt d) (offE h.as env) S'
      | _ => .stuck) else .stuck
    | some false => hdl hs x
    | none => .stuck
noncomputable def exS : Sm → MS
  | .nil => .nx
  | .cons s r => (exS s).seq (exS r)
  | .doc => .nx
  | .set tg e => .ev (ev e) fun d => .bd tg d
  | .par is es => .ev (evA es) fun ds env S => if ds.length = is.length then .ok .nx (setAll env is ds) S else .stuck
  | .put o i e => .ev (ev e) fun v => .ev (ev o) fun x => .ev (ev i) fun y => .ev (fun _ => putO x y v) fun _ => .nx
  | .sat o f e => .ev (ev e) fun v => .ev (ev o) fun x => .ev (fun _ => setO x f v) fun _ => .nx
  | .ex e => .ev (ev e) fun _ => .nx
  | .ite c a b => .ev (tst c) fun q => if q then exS a else exS b
  | .for tg it b => .ev (evS it) fun s => forW s tg (exS b) s.items
  | .whl c b => whlW (tst c) (exS b)
  | .ret e => .ev (ev e) fun d => .fl (.rt d)
  | .retn => .fl (.rt .non)
  | .brk => .fl .bk
  | .cnt => .fl .ct
  | .pss => .nx
  | .rs _ f es => .ev (evA es) fun ds => .ev (fun _ => f ds) MS.exc
  | .try b hs => fun env S => match exS b env S with
    | .exc x env' S' => hdl hs x env' S'
    | r => r
/-! ### 23. what is wanted of them -/
def KF (B : Bs) (De : Ends) (ρ : Rh) (H : Hp) : Fl → L2.St → Prop
  | .nx, σ => De.nx σ H
  | .rt d, _ => ∀ v, Rep B ρ H d v → De.rt v H
  | .bk, σ => De.bk σ H
  | .ct, σ => De.ct σ H
def GoS (B : Bs) (W : WX) (De : Ends) (ρ : Rh) (H : Hp) (r : RS) : Prop := match r with
  | .ok f env S' => ∀ ρ' H' σ', Ext ρ H ρ' H' → Sim B ρ' S' H' → RepS B ρ' H' env σ' → KF B De ρ' H' f σ'
  | .exc x env S' => ∀ ρ' H' σ', Ext ρ H ρ' H' → Sim B ρ' S' H' → RepS B ρ' H' env σ' → ∀ cls dd, RepX B ρ' H' x cls dd → W cls dd σ' H'
  | .stuck => False
def tS (B : Bs) (W : WX) (m : MS) : TS := fun De σ H => ∃ ρ env S, RepS B ρ H env σ ∧ Sim B ρ S H ∧ GoS B W De ρ H (m env S)
variable {De : Ends} {r : RS}
theorem GoS.later (e : Ext ρ H ρ' H') (gg : GoS B W De ρ H r) : GoS B W De ρ' H' r := by
  cases r with
  | ok f env S => exact fun ρ2 H2 σ2 e2 s2 h2 => gg ρ2 H2 σ2 (e.trans e2) s2 h2
  | exc x env S => exact fun ρ2 H2 σ2 e2 s2 h2 => gg ρ2 H2 σ2 (e.trans e2) s2 h2
  | stuck => exact gg
/-- other ends -/
theorem GoS.ends {De' : Ends} (gg : GoS B W De ρ H r) (h : ∀ f env S', r = .ok f env S' → ∀ ρ' H' σ', Ext ρ H ρ' H' → Sim B ρ' S' H' → RepS B ρ' H' env σ' → KF B De ρ' H' f σ' → KF B De' ρ' H' f σ') : GoS B W De' ρ H r := by
  cases r with
  | ok f env S => exact fun ρ2 H2 σ2 e2 s2 h2 => h f env S rfl ρ2 H2 σ2 e2 s2 h2 (gg ρ2 H2 σ2 e2 s2 h2)
  | exc x env S => exact gg
  | stuck => exact gg
/-- the expression ahead -/
theorem GoS.ev {α : Type} {m : Env → M α} {f : α → MS} (hs : RepS B ρ H env σ) (gg : GoS B W De ρ H (MS.ev m f env S)) :
    Go B ρ H (m env S) (fun a ρ' S' H' => GoS B W De ρ' H' (f a env S')) (KX B W σ) := by
  unfold MS.ev at gg
  cases e : m env S with
  | ok a S1 =>
    rw [e] at gg
    exact fun ρ' H' e1 s1 => GoS.later e1 gg
  | exc x S1 =>
    rw [e] at gg
    exact fun ρ' H' e1 s1 cls dd rx => gg ρ' H' σ e1 s1 (hs.mono e1) cls dd rx
  | stuck => rw [e] at gg; exact gg
theorem GoS.seq {a b : MS} (gg : GoS B W De ρ H (a.seq b env S)) : GoS B W { De with nx := fun σ' H' => ∃ ρ' env' S', RepS B ρ' H' env' σ' ∧ Sim B ρ' S' H' ∧ GoS B W De ρ' H' (b env' S') } ρ H (a env S) := by
  unfold MS.seq at gg
  cases e : a env S with
  | ok f env1 S1 =>
    rw [e] at gg
    cases f with
    | nx => exact fun ρ' H' σ' e1 s1 h1 => ⟨ρ', env1, S1, h1, s1, GoS.later e1 gg⟩
    | rt d => exact gg
    | bk => exact gg
    | ct => exact gg
  | exc x env1 S1 => rw [e] at gg; exact gg
  | stuck => rw [e] at gg; exact gg
theorem GoS.loop {b q : MS} {Nx : L2.St → Hp → Prop} (gg : GoS B W De ρ H (b.loop q env S)) (hN : ∀ ρ' env' S' H' σ', Ext ρ H ρ' H' → RepS B ρ' H' env' σ' → Sim B ρ' S' H' → GoS B W De ρ' H' (q env' S') → Nx σ' H') :
    GoS B W { De with nx := Nx, ct := Nx, bk := De.nx } ρ H (b env S) := by
  unfold MS.loop at gg
  cases e : b env S with
  | ok f env1 S1 =>
    rw [e] at gg
    cases f with
    | nx => exact fun ρ' H' σ' e1 s1 h1 => hN ρ' env1 S1 H' σ' e1 h1 s1 (GoS.later e1 gg)
    | ct => exact fun ρ' H' σ' e1 s1 h1 => hN ρ' env1 S1 H' σ' e1 h1 s1 (GoS.later e1 gg)
    | bk => exact gg
    | rt d => exact gg
  | exc x env1 S1 => rw [e] at gg; exact gg
  | stuck => rw [e] at gg; exact gg
theorem GoS.now {f : Fl} (hs : RepS B ρ H env σ) (s : Sim B ρ S H) (gg : GoS B W De ρ H (.ok f env S)) : KF B De ρ H f σ := gg ρ H σ .refl s hs
/-- a store into a target -/
theorem GoS.bd {tg : Tg} {d : D} {v : V} (s : Sim B ρ S H) (hs : RepS B ρ H env σ) (r : Rep B ρ H d v) (gg : GoS B W De ρ H (MS.bd tg d env S)) : gT B tg v σ H De.nx := by
  have g1 : Go B ρ H (M.bind (bindT tg d env) M.pure S) (fun env' ρ' S' H' => GoS B W De ρ' H' (.ok .nx env' S')) (fun _ _ _ _ => False) := by
    unfold MS.bd at gg
    unfold M.bind
    cases e : bindT tg d env S with
    | ok env1 S1 =>
      rw [e] at gg
      exact fun ρ' H' e1 s1 => GoS.later e1 gg
    | exc x S1 => rw [e] at gg; exact gg.elim
    | stuck => rw [e] at gg; exact gg
  exact bindT_ok (tg := tg) s hs r g1 fun env' σ' h' _ g2 => GoS.now h' s (Go.now s g2)
end Py
-- PyQ
namespace Py
open PySem PySem.Spec PyProof.Rows L2
variable {g : Gx} {k : Nat} {N : List Str} {ρ2 : Rh} {H2 : Hp}
/-! ### 24. the syntax of statements against the row's -/
def swNames (env : PySem.Env) (ts : List PySem.Expr) : List Str := ts.filterMap fun
    | .Name id pos => if env.kindOf id == some .local && pos.line == (ts.head?.map (·.pos.line)).getD 0 then some id else none
    | _ => none
theorem sw_eq (ts vs : List PySem.Expr) (j j2 p p2) (env : PySem.Env) : swappedStores [.Tuple ts j p] (.Tuple vs j2 p2) env =
   (if (!(ts.length == 2 || ts.length == 3) || vs.length != ts.length || env.blockKind != .function) = true then pure none else
    if (vs.any fun | .Starred .. => true | _ => false) = true then pure none else
    if ((swNames env ts).length != ts.length || (swNames env ts).eraseDups.length != (swNames env ts).length) = true then pure none else
    if vs.all (foldedForSure 8) = true then pure none else
    if vs.all (constantsAlone 8) = true then unsupported "assign.tuple-of-constant-expressions:order-of-the-stores" else pure (some (swNames env ts))) := by
  unfold swappedStores
  rfl
def swF (sc : Scope) (ln : Nat) : PySem.Expr → Option Str
  | .Name id pos => if sc.names.lookup id == some .local && pos.line == ln then some id else none
  | _ => none
def swN (sc : Scope) (ts : List PySem.Expr) : List Str := ts.filterMap (swF sc ((ts.head?.map (·.pos.line)).getD 0))
def starry : PySem.Expr → Bool
  | .Starred .. => true
  | _ => false
/-- the stores are in the swapped order -/
def parC (sc : Scope) (ts vs : List PySem.Expr) (is : List Nat) : Bool :=
  (ts.length == 2 || ts.length == 3) && (vs.length == ts.length && (!vs.any starry && ((swN sc ts).length == ts.length && ((swN sc ts).eraseDups.length == (swN sc ts).length && (!vs.all (foldedForSure 8) && (!vs.all (constantsAlone 8) && decide is.Nodup))))))
/-- they are not -/
def seqC (sc : Scope) (ts : List PySem.Expr) : PySem.Expr → Bool
  | .Tuple vs _ _ => !(ts.length == 2 || ts.length == 3) || (vs.length != ts.length || (vs.any starry || (((swN sc ts).length != ts.length || (swN sc ts).eraseDups.length != (swN sc ts).length) || vs.all (foldedForSure 8))))
  | _ => true
/-- x = [..]: the name is stored into while the block still stands -/
def lcSw (sc : Scope) (y : Str) (p : Pos) (scope : Scope) (p2 : Pos) : Bool := sc.names.lookup y == some .local && p.line == p2.line && !(scope.names.any fun (n, k) => n == y && (k == .local || k == .cell))
def isLc : E → Bool
  | .lc _ _ _ _ _ => true
  | _ => false
structure Sc where
  s : Scope → Stmt → Bool
  ss : Scope → List Stmt → Bool
structure Xc where
  v : Scope → PySem.Expr → Bool
  a : Scope → List PySem.Expr → Bool
def Xc.of (f : Scope → PySem.Expr → Bool) : Xc := ⟨f, fun _ _ => false⟩
def chkX (N : List Str) (as : Option Nat) : Xe → Xc
  | .con d => .of fun _ e => match e with
    | .Constant c _ _ => conIs d c
    | _ => false
  | .var i => .of fun sc e => match e with
    | .Name x _ => varOk N sc i x
    | _ => false
  | .fld i f => .of fun sc e => match e with
    | .Attribute (.Name x _) n _ => decide (f = n) && (decide (as = some i) && varOk N sc i x)
    | _ => false
  | .isx i c _ => .of fun sc e => match e with
    | .Call (.Name x _) [.Name y _, .Name z _] [] _ => decide (("isinstance" : Str) = x) && (nameOk sc x && (varOk N sc i y && (decide (c = z) && nameOk sc z)))
    | _ => false
  | .ite c a b => .of fun sc e => match e with
    | .IfExp c' a' b' _ => byVal c' && ((chkX N as c).v sc c' && ((chkX N as a).v sc a' && (chkX N as b).v sc b'))
    | _ => false
  | .nil => ⟨fun _ _ => false, fun _ es => es.isEmpty⟩
  | .cons e es => ⟨fun _ _ => false, fun sc xs => match xs with
    | x :: xs => notStar x && ((chkX N as e).v sc x && (chkX N as es).a sc xs)
    | _ => false⟩
  | .tup es => .of fun sc e => match e with
    | .Tuple xs _ _ => (chkX N as es).a sc xs
    | _ => false
  | .lst es => .of fun sc e => match e with
    | .List xs _ => (chkX N as es).a sc xs
    | _ => false
def chkH (N : List Str) (sc : Scope) (h : Hd) : ExceptHandler → Bool
  | .ExceptHandler (some (.Name x _)) n [.Return (some e) _] _ => decide (h.c = x) && (nameOk sc x && ((match h.as, n with
    | some i, some y => decide (N[i]? = some y) && decide (sc.names.lookup y = some .local)
    | none, none => true
    | _, _ => false) && (chkX N h.as h.e).v sc e))
  | _ => false
def chkHs (N : List Str) (sc : Scope) : List Hd → List ExceptHandler → Bool
  | [], [] => true
  | h :: hs, e :: es => chkH N sc h e && chkHs N sc hs es
  | _, _ => false
def sole (f : Scope → Stmt → Bool) : Sc := ⟨f, fun sc ss => match ss with
  | [s] => f sc s
  | _ => false⟩
def chkS (N : List Str) : Sm → Sc
  | .nil => ⟨fun _ _ => false, fun _ ss => ss.isEmpty⟩
  | .cons s r => ⟨fun _ _ => false, fun sc ss => match ss with
    | x :: xs => (chkS N s).s sc x && (chkS N r).ss sc xs
    | _ => false⟩
  | .doc => sole fun _ s => match s with
    | .Expr (.Constant (.str _) _ _) _ => true
    | _ => false
  | .set tg e => sole fun sc s => match s with
    | .Assign [t] v _ => chkT N sc tg t && ((chk N e).v sc v && (match t with
      | .Name y p => (match v with
        | .ListComp _ _ scope p2 => isLc e || !lcSw sc y p scope p2
        | v => notComp v)
      | .Tuple ts _ _ => notComp v && seqC sc ts v
      | _ => false))
    | _ => false
  | .par is es => sole fun sc s => match s with
    | .Assign [.Tuple ts _ _] (.Tuple vs _ _) _ => tgsOk N sc is ts && (parC sc ts vs is && (chk N es).a sc vs)
    | _ => false
  | .put o i e => sole fun sc s => match s with
    | .Assign [.Subscript o' i' _] v _ => notSlice i' && ((chk N e).v sc v && ((chk N o).v sc o' && (chk N i).v sc i'))
    | _ => false
  | .sat o f e => sole fun sc s => match s with
    | .Assign [.Attribute o' x _] v _ => decide (f = x) && ((chk N e).v sc v && (chk N o).v sc o')
    | _ => false
  | .ex e => sole fun sc s => match s with
    | .Expr e' _ => notComp e' && (chk N e).v sc e'
    | _ => false
  | .ite c a b => sole fun sc s => match s with
    | .If c' a' b' _ => (chk N c).t sc c' && ((chkS N a).ss sc a' && (chkS N b).ss sc b')
    | _ => false
  | .for tg it b => sole fun sc s => match s with
    | .For t it' b' [] _ => chkT N sc tg t && ((chk N it).i sc t it' && (chkS N b).ss sc b')
    | _ => false
  | .whl c b => sole fun sc s => match s with
    | .While c' b' [] _ => (chk N c).t sc c' && (chkS N b).ss sc b'
    | _ => false
  | .ret e => sole fun sc s => match s with
    | .Return (some e') _ => (chk N e).v sc e'
    | _ => false
  | .retn => sole fun _ s => match s with
    | .Return none _ => true
    | _ => false
  | .brk => sole fun _ s => match s with
    | .Break _ => true
    | _ => false
  | .cnt => sole fun _ s => match s with
    | .Continue _ => true
    | _ => false
  | .pss => sole fun _ s => match s with
    | .Pass _ => true
    | _ => false
  | .rs c _ es => sole fun sc s => match s with
    | .Raise (some (.Call (.Name x _) (y :: ys) [] _)) none _ => decide (c = x) && (nameOk sc x && (chk N es).a sc (y :: ys))
    | _ => false
  | .try b hs => sole fun sc s => match s with
    | .Try b' (h :: hs') [] [] _ => (chkS N b).ss sc b' && chkHs N sc hs (h :: hs')
    | _ => false
/-! ### 25. what statements lean on -/
/-- where statements stand: in a def's body (in a try of it, too) -/
structure CxS (g : Gx) (k : Nat) (X : Cx) (W : WX) : Prop extends Ctx g k X W where
  ps : PassesOwn (model X.prog X.w) X.A X.env X.xe
  stk : X.stack = X.env :: X.outer
  frm : X.env.frame = some X.env.locals
  fna : ∀ x, X.fn x = true
  kind : X.env.scope.kind = .function
/-- C(..) makes the exception that f says -/
def ExcSem (g : Gx) (k : Nat) (c : Str) (f : List D → M Exn) : Prop := ∀ (X : Cx) (W : WX) (p pos : Pos) (e : PySem.Expr) (es : List PySem.Expr) (a : E), Ctx g k X W → nameOk X.env.scope c = true → PA X (e :: es) (tA g.B W a) → (e :: es).all notStar = true →
  PMk X (.Call (.Name c p) (e :: es) [] pos) (fun σ H Q => ∃ ρ env S, RepS g.B ρ H env σ ∧ Sim g.B ρ S H ∧ Go g.B ρ H (M.bind (evA a env) f S) (fun x ρ' _ H' => ∀ cls dd, RepX g.B ρ' H' x cls dd → Q cls dd H') (KX g.B W σ))
/-- isinstance(e, c), e a caught exception: by the table -/
def TbOk (g : Gx) (c : Value) (tb : List (Str × Bool)) : Prop := ∀ p ∈ tb, PySem.W.exmOne g.B.K (.ref (He.ga g.B.K p.1)) c = some p.2
def OkX (g : Gx) : Xe → Prop
  | .isx _ c b => False
  | .fld _ f => True
  | .ite c a b => OkX g c ∧ OkX g a ∧ OkX g b
  | .cons e es => OkX g e ∧ OkX g es
  | .tup es => OkX g es
  | .lst es => OkX g es
  | _ => True
def flds : Xe → List Str
  | .fld _ f => [f]
  | .ite c a b => flds c ++ flds a ++ flds b
  | .cons e es => flds e ++ flds es
  | .tup es => flds es
  | .lst es => flds es
  | _ => []
/-- a clause: the class by its name; the answers; the fields that the suite reads -/
def OkH (g : Gx) (h : Hd) : Prop := ∃ c : Value, (if h.own then g.mg h.c = some c else g.mg h.c = none ∧ bootBuiltins h.c = some c) ∧ TbOk g c h.tb ∧ OkX g h.e ∧
  ∀ p ∈ h.tb, p.2 = true → XfC g.B.K (He.ga g.B.K p.1) ∧ ∀ f ∈ flds h.e, PySem.W.findIn g.B.K (.ref (He.ga g.B.K p.1)) f = some none
def OkS (g : Gx) (k : Nat) : Sm → Prop
  | .cons s r => OkS g k s ∧ OkS g k r
  | .set _ e => OkE g k e
  | .par _ es => OkE g k es
  | .put o i e => OkE g k o ∧ OkE g k i ∧ OkE g k e
  | .sat o f e => (∀ c ∈ g.B.cls, NoAttr g.B.K (He.ga g.B.K c) f) ∧ OkE g k o ∧ OkE g k e
  | .ex e => OkE g k e
  | .ite c a b => OkE g k c ∧ OkS g k a ∧ OkS g k b
  | .for _ it b => OkE g k it ∧ OkS g k b
  | .whl c b => OkE g k c ∧ OkS g k b
  | .ret e => OkE g k e
  | .rs c f es => ExcSem g k c f ∧ OkE g k es
  | .try b hs => OkS g k b ∧ ∀ h ∈ hs, OkH g h
  | _ => True
/-! ### 26. one by one -/
structure SndS (g : Gx) (k : Nat) (N : List Str) (m : Sm) : Prop where
  s : ∀ {X : Cx} {W : WX} {st : Stmt}, CxS g k X W → X.N = N → (chkS N m).s X.env.scope st = true → PS X st (tS g.B W (exS m))
  ss : ∀ {X : Cx} {W : WX} {st : List Stmt}, CxS g k X W → X.N = N → (chkS N m).ss X.env.scope st = true → PSs X st (tS g.B W (exS m))
theorem SndS.sole {m : Sm} {f : Scope → Stmt → Bool} (hc : chkS N m = Py.sole f) (hs : ∀ {X : Cx} {W : WX} {st : Stmt}, CxS g k X W → X.N = N → f X.env.scope st = true → PS X st (tS g.B W (exS m))) : SndS g k N m where
  s := fun cx n h => hs cx n (by rw [hc] at h; exact h)
  ss := fun {X W st} cx n h => by
    rw [hc] at h
    match st, h with
    | [s], h => exact pss_one (hs cx n h)
    | [], h => cases h
    | _ :: _ :: _, h => cases h
/-- an expression's reading ahead of what comes -/
theorem evE {c : E} {f : D → MS} {De : Ends} {Q : VK} (hs : RepS B ρ H env σ) (s : Sim B ρ S H) (gg : GoS B W De ρ H (MS.ev (ev c) f env S))
    (hk : ∀ d v ρ1 S1 H1, Ext ρ H ρ1 H1 → RepS B ρ1 H1 env σ → Sim B ρ1 S1 H1 → Rep B ρ1 H1 d v → GoS B W De ρ1 H1 (f d env S1) → Q v H1) : tE B W c σ H Q :=
  ⟨ρ, env, S, hs, s, (GoS.ev hs gg).imp (fun d ρ1 S1 H1 e s1 g1 v r => hk d v ρ1 S1 H1 e (hs.mono e) s1 r g1) fun _ _ _ _ _ _ h => h⟩
theorem evT {c : E} {f : Bool → MS} {De : Ends} {Q : Bool → Hp → Prop} (hs : RepS B ρ H env σ) (s : Sim B ρ S H) (gg : GoS B W De ρ H (MS.ev (tst c) f env S))
    (hk : ∀ b ρ1 S1 H1, Ext ρ H ρ1 H1 → RepS B ρ1 H1 env σ → Sim B ρ1 S1 H1 → GoS B W De ρ1 H1 (f b env S1) → Q b H1) : tT B W c σ H Q :=
  ⟨ρ, env, S, hs, s, (GoS.ev hs gg).imp (fun d ρ1 S1 H1 e s1 g1 => hk d ρ1 S1 H1 e (hs.mono e) s1 g1) fun _ _ _ _ _ _ h => h⟩
theorem evAl {c : E} {f : List D → MS} {De : Ends} {Q : List V → Hp → Prop} (hs : RepS B ρ H env σ) (s : Sim B ρ S H) (gg : GoS B W De ρ H (MS.ev (evA c) f env S))
    (hk : ∀ d v ρ1 S1 H1, Ext ρ H ρ1 H1 → RepS B ρ1 H1 env σ → Sim B ρ1 S1 H1 → RepL B ρ1 H1 d v → GoS B W De ρ1 H1 (f d env S1) → Q v H1) : tA B W c σ H Q :=
  ⟨ρ, env, S, hs, s, (GoS.ev hs gg).imp (fun d ρ1 S1 H1 e s1 g1 v r => hk d v ρ1 S1 H1 e (hs.mono e) s1 r g1) fun _ _ _ _ _ _ h => h⟩
theorem sm_nil : SndS g k N .nil where
  s := fun cx n h => by cases h
  ss := fun {X W st} cx n h => by
    cases st with
    | nil => exact PSs.imp pss_nil fun De σ H ⟨ρ, env, S, hs, s, gg⟩ => GoS.now hs s gg
    | cons _ _ => cases h
theorem sm_cons (a b : Sm) (i1 : SndS g k N a) (i2 : SndS g k N b) : SndS g k N (.cons a b) where
  s := fun cx n h => by cases h
  ss := fun {X W st} cx n h => by
    cases st with
    | nil => cases h
    | cons x xs =>
      obtain ⟨h1, h2⟩ := band (show ((chkS N a).s X.env.scope x && (chkS N b).ss X.env.scope xs) = true from h)
      refine PSs.imp (pss_cons (i1.s cx n h1) (i2.ss cx n h2)) fun De σ H ⟨ρ, env, S, hs, s, gg⟩ => ?_
      exact ⟨ρ, env, S, hs, s, GoS.seq gg⟩
theorem sm_doc : SndS g k N .doc := by
  refine SndS.sole (f := _) rfl fun {X W st} cx n h => ?_
  cases st with
  | Expr e p =>
    cases e with
    | Constant c j q =>
      cases c with
      | str x => exact PS.imp ps_doc fun De σ H ⟨ρ, env, S, hs, s, gg⟩ => GoS.now hs s gg
      | _ => cases h
    | _ => cases h
  | _ => cases h
theorem notComp_sw {e : PySem.Expr} (h : notComp e = true) (t : Option PySem.Expr) (l : Nat) (env : PySem.Env) : swapsWith e t l env = pure false := by
  cases e <;> first | rfl | cases h
theorem sm_ex (e : E) (i1 : Snd g k N e) : SndS g k N (.ex e) := by
  refine SndS.sole (f := _) rfl fun {X W st} cx n h => ?_
  cases st with
  | Expr e' p =>
    obtain ⟨h1, h2⟩ := band (show (notComp e' && (chk N e).v X.env.scope e') = true from h)
    refine PS.imp (ps_expr (i1.v cx.toCtx n h2) (notComp_sw h1 _ _ _)) fun De σ H ⟨ρ, env, S, hs, s, gg⟩ => ?_
    exact evE hs s gg fun d v ρ1 S1 H1 e1 hs1 s1 r g1 => GoS.now hs1 s1 g1
  | _ => cases h
theorem sm_ret (e : E) (i1 : Snd g k N e) : SndS g k N (.ret e) := by
  refine SndS.sole (f := _) rfl fun {X W st} cx n h => ?_
  cases st with
  | Return e' p =>
    cases e' with
    | some e' =>
      refine PS.imp (ps_ret (i1.v cx.toCtx n h)) fun De σ H ⟨ρ, env, S, hs, s, gg⟩ => ?_
      exact evE hs s gg fun d v ρ1 S1 H1 e1 hs1 s1 r g1 => GoS.now hs1 s1 g1 v r
    | none => cases h
  | _ => cases h
theorem sm_retn : SndS g k N .retn := by
  refine SndS.sole (f := _) rfl fun {X W st} cx n h => ?_
  cases st with
  | Return e' p =>
    cases e' with
    | none => exact PS.imp ps_retN fun De σ H ⟨ρ, env, S, hs, s, gg⟩ => GoS.now hs s gg _ .non
    | some _ => cases h
  | _ => cases h
theorem sm_brk : SndS g k N .brk := by
  refine SndS.sole (f := _) rfl fun {X W st} cx n h => ?_
  cases st with
  | Break p => exact PS.imp ps_break fun De σ H ⟨ρ, env, S, hs, s, gg⟩ => GoS.now hs s gg
  | _ => cases h
theorem sm_cnt : SndS g k N .cnt := by
  refine SndS.sole (f := _) rfl fun {X W st} cx n h => ?_
  cases st with
  | Continue p => exact PS.imp ps_continue fun De σ H ⟨ρ, env, S, hs, s, gg⟩ => GoS.now hs s gg
  | _ => cases h
theorem sm_pss : SndS g k N .pss := by
  refine SndS.sole (f := _) rfl fun {X W st} cx n h => ?_
  cases st with
  | Pass p => exact PS.imp ps_pass fun De σ H ⟨ρ, env, S, hs, s, gg⟩ => GoS.now hs s gg
  | _ => cases h
theorem sm_ite (c : E) (a b : Sm) (i0 : Snd g k N c) (i1 : SndS g k N a) (i2 : SndS g k N b) : SndS g k N (.ite c a b) := by
  refine SndS.sole (f := _) rfl fun {X W st} cx n h => ?_
  cases st with
  | If c' a' b' p =>
    obtain ⟨h1, h2⟩ := band (show ((chk N c).t X.env.scope c' && ((chkS N a).ss X.env.scope a' && (chkS N b).ss X.env.scope b')) = true from h)
    obtain ⟨h2, h3⟩ := band h2
    refine PS.imp (ps_if (i0.t cx.toCtx n h1) (i1.ss cx n h2) (i2.ss cx n h3)) fun De σ H ⟨ρ, env, S, hs, s, gg⟩ => ?_
    refine evT hs s gg fun q ρ1 S1 H1 e1 hs1 s1 g1 => ?_
    cases q with
    | true => rw [if_pos rfl]; exact ⟨ρ1, env, S1, hs1, s1, g1⟩
    | false => rw [if_neg Bool.false_ne_true]; exact ⟨ρ1, env, S1, hs1, s1, g1⟩
  | _ => cases h
end Py
-- PyR
namespace Py
open PySem PySem.Spec PyProof.Rows L2
variable {g : Gx} {k : Nat} {N : List Str} {ρ2 : Rh} {H2 : Hp}
/-! ### 27. o[i] = v -/
def rSetG (B : Bs) : TSet := fun o i v H Q => ∃ ρ S d1 d2 d3 kx, Sim B ρ S H ∧ Rep B ρ H d1 o ∧ Rep B ρ H d2 i ∧ Rep B ρ H d3 v ∧ Go B ρ H (putO d1 d2 d3 S) (fun _ _ _ H' => Q H') kx
theorem set_all (hu : X.A.units + 1 < cLine) : PSet X (rSetG B) := by
  intro pins s σ H o i v ov iv u Q I ro ri rv ⟨ρ, S, d1, d2, d3, kx, hs, h1, h2, h3, gg⟩
  cases d1 with
  | cell n =>
    cases h1 with
    | @cell _ a ha =>
      obtain ⟨cv, e, cr⟩ := hs.get ha
      have am : a ∈ ρ.c := List.mem_iff_getElem?.mpr ⟨n, ha⟩
      have gg : Go B ρ H (match (S[n]?).bind fun c => putC c d2 d3 with
        | some c => .ok () (S.set n c)
        | none => .stuck : Out Unit) (fun _ _ _ H' => Q H') kx := gg
      rw [e] at gg
      have gg : Go B ρ H (match putC cv d2 d3 with
        | some c => .ok () (S.set n c)
        | none => .stuck : Out Unit) (fun _ _ _ H' => Q H') kx := gg
      cases ep : putC cv d2 d3 with
      | none => rw [ep] at gg; exact gg.elim
      | some cw =>
        rw [ep] at gg
        cases cv with
        | lst xs =>
          obtain ⟨vs, q, rl⟩ := cell_lst cr
          cases h2 with
          | int j =>
            obtain ⟨m, em, ew⟩ := Option.map_eq_some_iff.mp (show (ixN xs.length j).map (fun j => CV.lst (xs.set j d3)) = some cw from ep)
            subst ew
            refine set_list pins s σ H _ _ v ov iv u Q I ro ri rv ⟨a, vs, j, m, rfl, rfl, q, by rw [← rl.len]; exact em, ?_⟩
            have ex : Ext ρ H ρ (upd H a (.lst (vs.set m v))) := Ext.write hs _ am (fun o' u z => by rw [q] at z; cases z)
            exact gg ρ _ ex (hs.write ha (.lst upd_same (RepL.set (h3.mono ex) m (rl.mono ex))))
          | _ => cases ep
        | ins c fs => cases ep
        | dic lk kvs =>
          cases lk with
          | true => cases ep
          | false =>
            cases cr with
            | @dic _ _ kws q kr =>
              obtain ⟨y, ey, ew⟩ := Option.bind_eq_some_iff.mp (show (keyOf d2).bind (fun y => if fits (kvs.length + 1) then some (CV.dic false (putD kvs y d3)) else none) = some cw from ep)
              by_cases c : fits (kvs.length + 1) = true
              · rw [if_pos c] at ew
                cases ew
                have eq := keyOf_rep ey h2
                subst eq
                cases ro
                have ln : kws.length < sizeLine := by rw [← kr.length]; exact fits_le c
                refine d_setItem hu I (DPut.k q ln) ri rv fun s' I' => ⟨_, I', ?_⟩
                have ex : Ext ρ H ρ (upd H a (.dK (putK kws y v))) := Ext.write hs _ am (fun o' u z => by rw [q] at z; cases z)
                exact gg ρ _ ex (hs.write ha (.dic upd_same (KRep.put (h3.mono ex) (kr.mono ex))))
              · rw [if_neg c] at ew
                cases ew
  | _ => exact gg.elim
theorem sub_asg (o i : PySem.Expr) (h : notSlice i = true) (pos : Pos) (env : PySem.Env) : ∀ v, assign (.Subscript o i pos) env v = (do
      let ov ← holding [v] (eval o env)
      let iv ← holding [v, ov] (eval i env)
      standAt pos
      holding [v, ov, iv] (setItem ov iv v)
      release [v, ov, iv] []) := by
  intro v
  cases i <;> first | rfl | cases h
theorem sub_sw (o i e : PySem.Expr) (pos : Pos) (l : Nat) (env : PySem.Env) : swapsWithSole [.Subscript o i pos] e l env = pure false := by
  cases e <;> rfl
theorem sm_put (o i e : E) (i0 : Snd g k N o) (i1 : Snd g k N i) (i2 : Snd g k N e) : SndS g k N (.put o i e) := by
  refine SndS.sole (f := _) rfl fun {X W st} cx n h => ?_
  cases st with
  | Assign ts v p =>
    match ts, h with
    | [t], h =>
      cases t with
      | Subscript o' i' tp =>
        obtain ⟨h1, h2⟩ := band (show (notSlice i' && ((chk N e).v X.env.scope v && ((chk N o).v X.env.scope o' && (chk N i).v X.env.scope i'))) = true from h)
        obtain ⟨h2, h3⟩ := band h2
        obtain ⟨h3, h4⟩ := band h3
        refine PS.imp (ps_asg (i2.v cx.toCtx n h2) (pg_sub (i0.v cx.toCtx n h3) (i1.v cx.toCtx n h4) (set_all (B := g.B) (ctx_u1 cx.toCtx)) (sub_asg _ _ h1 _ _)) (sub_sw _ _ _ _ _ _)) fun De σ H ⟨ρ, env, S, hs, s, gg⟩ => ?_
        refine evE hs s gg fun d v ρ1 S1 H1 e1 hs1 s1 r g1 => ?_
        refine evE hs1 s1 g1 fun d2 v2 ρ2 S2 H2 e2 hs2 s2 r2 g2 => ?_
        refine evE hs2 s2 g2 fun d3 v3 ρ3 S3 H3 e3 hs3 s3 r3 g3 => ?_
        exact ⟨ρ3, S3, d2, d3, d, _, s3, r2.mono e3, r3, r.mono (e2.trans e3), (GoS.ev hs3 g3).imp (fun _ ρ4 S4 H4 e4 s4 g4 => GoS.now (hs3.mono e4) s4 g4) fun _ _ _ _ _ _ q => q⟩
      | _ => cases h
    | [], h => cases h
    | t1 :: _ :: _, h => cases t1 <;> cases h
  | _ => cases h
/-! ### 27b. o.f = v -/
theorem FRep.put {f : Str} {d : D} {v : V} (r : Rep B ρ H d v) : ∀ {fs : List (Str × D)} {ws : List (Str × V)}, FRep B ρ H fs ws → FRep B ρ H (setF f d fs) (putF f v ws)
  | _, _, .nil => .cons ⟨rfl, r⟩ .nil
  | (a, x) :: fs, (b, y) :: ws, .cons q t => by
    obtain ⟨rfl, q2⟩ := q
    show FRep B ρ H (if a = f then (a, d) :: fs else (a, x) :: setF f d fs) (if a = f then (a, v) :: ws else (a, y) :: putF f v ws)
    by_cases c : a = f
    · rw [if_pos c, if_pos c]
      exact .cons ⟨rfl, r⟩ t
    · rw [if_neg c, if_neg c]
      exact .cons ⟨rfl, q2⟩ (FRep.put r t)
theorem sat_sw (o e : PySem.Expr) (f : Str) (pos : Pos) (l : Nat) (env : PySem.Env) : swapsWith e (some (.Attribute o f pos)) l env = pure false := by
  cases e <;> rfl
theorem sm_sat (o : E) (f : Str) (e : E) (G : GOk g) (ok : ∀ c ∈ g.B.cls, NoAttr g.B.K (He.ga g.B.K c) f) (i0 : Snd g k N o) (i2 : Snd g k N e) : SndS g k N (.sat o f e) := by
  refine SndS.sole (f := _) rfl fun {X W st} cx n h => ?_
  cases st with
  | Assign ts v p =>
    match ts, h with
    | [t], h =>
      cases t with
      | Attribute o' x tp =>
        obtain ⟨h1, h2⟩ := band (show (decide (f = x) && ((chk N e).v X.env.scope v && (chk N o).v X.env.scope o')) = true from h)
        obtain ⟨h2, h3⟩ := band h2
        have : f = x := of_decide_eq_true h1
        subst this
        refine PS.imp (ps_fld (i0.v cx.toCtx n h3) (i2.v cx.toCtx n h2) (sat_sw _ _ _ _ _ _)) fun De σ H ⟨ρ, env, S, hs, s, gg⟩ => ?_
        refine evE hs s gg fun d v ρ1 S1 H1 e1 hs1 s1 r g1 => ?_
        refine evE hs1 s1 g1 fun d2 v2 ρ2 S2 H2 e2 hs2 s2 r2 g2 => ?_
        have g3 := GoS.ev hs2 g2
        cases r2 with
        | @cell m a ha =>
          obtain ⟨cv, ec, cr⟩ := s2.get ha
          have g3 : Go g.B ρ2 H2 (match S2[m]? with
            | some (.ins c fs) => if fs.length < 1000 then .ok () (S2.set m (.ins c (setF f d fs))) else .stuck
            | _ => .stuck : Out Unit) (fun _ ρ' S' H' => GoS g.B W De ρ' H' (MS.nx env S')) (KX g.B W σ) := g3
          rw [ec] at g3
          cases cr with
          | lst _ _ => exact g3.elim
          | dic _ _ => exact g3.elim
          | lck _ _ => exact g3.elim
          | @ins a dx c fs ws z q rf =>
            have g3 : Go g.B ρ2 H2 (if fs.length < 1000 then .ok () (S2.set m (.ins c (setF f d fs))) else .stuck : Out Unit) (fun _ ρ' S' H' => GoS g.B W De ρ' H' (MS.nx env S')) (KX g.B W σ) := g3
            by_cases l : fs.length < 1000
            · rw [if_pos l] at g3
              have lw : ws.length < 1000 := by rw [← Paired.length rf]; exact l
              refine ⟨a, _, dx, ws, rfl, q, by rw [cx.toCtx.K]; exact (G.cl c z).2.cls, by rw [cx.toCtx.K]; exact ok c z, lw, ?_⟩
              have am : a ∈ ρ2.c := List.mem_iff_getElem?.mpr ⟨m, ha⟩
              have ex : Ext ρ2 H2 ρ2 (upd H2 a (.ins (He.ga g.B.K c) dx (putF f v ws))) := Ext.write s2 _ am (fun o' u z => by rw [q] at z; cases z)
              have s3 := s2.write ha (c := .ins c (setF f d fs)) (.ins z upd_same (FRep.put (r.mono (e2.trans ex)) (rf.mono ex)))
              exact GoS.now (hs2.mono ex) s3 (g3 ρ2 _ ex s3)
            · rw [if_neg l] at g3
              exact g3.elim
        | _ => exact g3.elim
      | _ => cases h
    | [], h => cases h
    | t1 :: _ :: _, h => cases t1 <;> cases h
  | _ => cases h
/-! ### 28. x = e; a, b = e -/
theorem swN_eq {env : PySem.Env} (ts : List PySem.Expr) : swNames env ts = swN env.scope ts := by
  unfold swNames swN
  congr 1
theorem seq_sw {env : PySem.Env} {ts : List PySem.Expr} {j p} {v : PySem.Expr} (h : seqC env.scope ts v = true) : swappedStores [.Tuple ts j p] v env = pure none := by
  cases v with
  | Tuple vs j2 p2 =>
    rw [sw_eq]
    have h : (!(ts.length == 2 || ts.length == 3) || (vs.length != ts.length || (vs.any starry || (((swN env.scope ts).length != ts.length || (swN env.scope ts).eraseDups.length != (swN env.scope ts).length) || vs.all (foldedForSure 8))))) = true := h
    rw [swN_eq]
    by_cases c1 : (!(ts.length == 2 || ts.length == 3) || vs.length != ts.length || env.blockKind != .function) = true
    · rw [if_pos c1]
    · rw [if_neg c1]
      by_cases c2 : vs.any starry = true
      · exact if_pos c2
      · refine (if_neg c2).trans ?_
        by_cases c3 : ((swN env.scope ts).length != ts.length || (swN env.scope ts).eraseDups.length != (swN env.scope ts).length) = true
        · rw [if_pos c3]
        · rw [if_neg c3]
          by_cases c4 : vs.all (foldedForSure 8) = true
          · rw [if_pos c4]
          · exfalso
            simp only [Bool.or_eq_true] at h c1 c3
            rcases h with h | h | h | h | h
            · exact c1 (.inl (.inl h))
            · exact c1 (.inl (.inr h))
            · exact c2 h
            · exact c3 h
            · exact c4 h
  | _ => rfl
theorem par_sw {env : PySem.Env} {ts vs : List PySem.Expr} {is : List Nat} {j j2 p p2} (hk : env.scope.kind = .function) (h : parC env.scope ts vs is = true) : swappedStores [.Tuple ts j p] (.Tuple vs j2 p2) env = pure (some (swN env.scope ts)) := by
  have hb : env.blockKind = .function := by unfold Env.blockKind; rw [hk] <;> rfl
  obtain ⟨h1, h2⟩ := band h
  obtain ⟨h2, h3⟩ := band h2
  obtain ⟨h3, h4⟩ := band h3
  obtain ⟨h4, h5⟩ := band h4
  obtain ⟨h5, h6⟩ := band h5
  obtain ⟨h6, h7⟩ := band h6
  obtain ⟨h7, h8⟩ := band h7
  rw [sw_eq, swN_eq]
  have e2 : vs.length = ts.length := eq_of_beq h2
  rw [if_neg (by rw [hb, h1, e2]; simp)]
  refine (if_neg (show ¬ (vs.any starry = true) by simpa using h3)).trans ?_
  have e4 : (swN env.scope ts).length = ts.length := eq_of_beq h4
  have e5 : (swN env.scope ts).eraseDups.length = (swN env.scope ts).length := eq_of_beq h5
  rw [if_neg (by rw [e5, e4]; simp), if_neg (by rw [Bool.not_eq_true' ] at h6; rw [h6]; decide), if_neg (by rw [Bool.not_eq_true'] at h7; rw [h7]; decide)]
theorem cx_own {W : WX} (cx : CxS g k X W) (e : PySem.Expr) : ownE X e := by
  cases e with
  | Name x p => exact .inl (cx.fna x)
  | Tuple es j p => exact fun e he x q h => .inl (cx.fna x)
  | _ => exact True.intro
theorem each_one (t : PySem.Expr) {tg : Tg} {sc : Scope} (h : chkT N sc tg t = true) (env : PySem.Env) : (assignEach [t] env).map (·.2) = [assign t env] := by
  cases t with
  | Starred e p => cases tg <;> cases h
  | _ => rfl
end Py
-- PyS
namespace Py
open PySem PySem.Spec PyProof.Rows L2
variable {g : Gx} {k : Nat} {N : List Str} {ρ2 : Rh} {H2 : Hp}
theorem lc_sw {env : PySem.Env} (hk : env.scope.kind = .function) (elt : PySem.Expr) (gs : List Comprehension) (scope : Scope) (p2 p : Pos) (y : Str) (l : Nat) : swapsWith (.ListComp elt gs scope p2) (some (.Name y p)) l env = pure (lcSw env.scope y p scope p2) := by
  have hb : env.blockKind = .function := by unfold Env.blockKind; rw [hk] <;> rfl
  unfold swapsWith
  simp only [hb]
  rfl
/-- x = [..], stored within the block -/
theorem lc_set {m : Bool} {tg : Tg} {it c e : E} {W : WX} {i : Nat} {y : Str} {elt : PySem.Expr} {gs : List Comprehension} {scope : Scope} {p py sp : Pos} (i1 : Snd g k N it) (i2 : Snd g k N c) (i3 : Snd g k N e) (cx : CxS g k X W) (hN : X.N = N)
    (h : (chk N (.lc m tg it c e)).v X.env.scope (.ListComp elt gs scope p) = true) (hy : X.N[i]? = some y) (hyl : X.env.scope.names.lookup y = some .local) (hsw : lcSw X.env.scope y py scope p = true) :
    PS X (.Assign [.Name y py] (.ListComp elt gs scope p) sp) (tAsg (tE g.B W (.lc m tg it c e)) (gName i)) := by
  have shape : ∃ tg' iter ifs, gs = [⟨tg', iter, ifs, 0⟩] ∧ (blkC N X.env.scope scope (tgNames N tg.slots) && (ownB scope tg' && chkT N (relS scope X.env.scope) tg tg' && ((chk N it).i X.env.scope tg' iter && ((chk N c).ifs (relS scope X.env.scope) ifs && (chk N e).v (relS scope X.env.scope) elt)))) = true := by
    have h : (match (PySem.Expr.ListComp elt gs scope p) with
      | .ListComp elt [⟨tg', iter, ifs, 0⟩] scope _ => blkC N X.env.scope scope (tgNames N tg.slots) && (ownB scope tg' && chkT N (relS scope X.env.scope) tg tg' && ((chk N it).i X.env.scope tg' iter && ((chk N c).ifs (relS scope X.env.scope) ifs && (chk N e).v (relS scope X.env.scope) elt)))
      | _ => false) = true := h
    split at h
    · rename_i e1
      cases e1
      exact ⟨_, _, _, rfl, h⟩
    · cases h
  obtain ⟨tg', iter, ifs, rfl, h⟩ := shape
  obtain ⟨h1, h2⟩ := band h
  obtain ⟨h2, h3⟩ := band h2
  obtain ⟨h2, h2'⟩ := band h2
  obtain ⟨h3, h4⟩ := band h3
  obtain ⟨h4, h5⟩ := band h4
  obtain ⟨pi, ns⟩ := i1.i (W := W) cx.toCtx hN h3
  have ok : BlkOk X.N X.env.scope scope (tgNames N tg.slots) := by rw [hN]; exact blkOk_by h1
  have hp := ps_setLc (X := X) (i := i) (y := y) (py := py) (elt := elt) (tg := tg') (iter := iter) (ifs := ifs) (scope := scope) (pos := p) (spos := sp) (g := gT g.B tg) (tt := tT g.B W0 c) (te := tE g.B W0 e) cx.calm cx.nd hy hyl ((lc_sw cx.kind _ _ _ _ _ _ _).trans (by rw [hsw])) pi ok
    (fun s H C cl fp => pg_tg (ctx_blk cx.toCtx s H scope _ fp) (show chkT X.N (relS scope X.env.scope) tg tg' = true by rw [hN]; exact h2') ?_)
    (fun s H C cl fp => i2.ifs (ctx_blk cx.toCtx s H scope _ fp) hN h4) (fun s H C cl fp => i3.v (ctx_blk cx.toCtx s H scope _ fp) hN h5) (set_none ns)
  · rw [tgNames_ix] at hp
    exact PS.imp hp fun De σ H z => lc_ok z
  · cases tg' with
    | Name y q => exact own_loc (sc := X.env.scope) (show locB scope y = true from h2)
    | Tuple es j q =>
      intro z hz y r ez
      subst ez
      have := List.all_eq_true.mp (show (es.all fun e => match e with
        | .Name x _ => locB scope x
        | _ => false) = true from h2) _ hz
      exact own_loc (sc := X.env.scope) this
    | _ => exact True.intro
/-- what an expression's parts give, where it is a comprehension -/
def Lcs (g : Gx) (k : Nat) (N : List Str) : E → Prop
  | .lc _ _ it c e => Snd g k N it ∧ Snd g k N c ∧ Snd g k N e
  | _ => True
theorem is_lc {e : E} (h : isLc e = true) : ∃ m tg it c e', e = .lc m tg it c e' := by
  cases e <;> first | exact ⟨_, _, _, _, _, rfl⟩ | cases h
theorem tup_sw {ts : List PySem.Expr} {j q l} {v : PySem.Expr} {env : PySem.Env} (h : notComp v = true) : swapsWithSole [.Tuple ts j q] v l env = pure false := by
  cases v <;> first | rfl | cases h
theorem len2 {α : Type} {l : List α} (h : l.length = 2) : ∃ a b, l = [a, b] := by
  match l, h with
  | [a, b], _ => exact ⟨a, b, rfl⟩
theorem len3 {α : Type} {l : List α} (h : l.length = 3) : ∃ a b c, l = [a, b, c] := by
  match l, h with
  | [a, b, c], _ => exact ⟨a, b, c, rfl⟩
theorem asg_go {W : WX} {e : E} {tg : Tg} {De : Ends} (h : tS g.B W (exS (.set tg e)) De σ H) : tAsg (tE g.B W e) (gT g.B tg) De σ H := by
  obtain ⟨ρ, env, S, hs, s, gg⟩ := h
  exact evE hs s gg fun d v ρ1 S1 H1 e1 hs1 s1 r g1 => GoS.bd s1 hs1 r g1
theorem sm_set (tg : Tg) (e : E) (i1 : Snd g k N e) (il : Lcs g k N e) : SndS g k N (.set tg e) := by
  refine SndS.sole (f := _) rfl fun {X W st} cx n h => ?_
  cases st with
  | Assign ts v p =>
    match ts, h with
    | [t], h =>
      obtain ⟨h1, hh⟩ := band h
      obtain ⟨h2, h3⟩ := band hh
      clear h hh
      cases t with
      | Name y q =>
        cases tg with
        | tp is => cases h1
        | nm i =>
          have pe := i1.v (W := W) cx.toCtx n h2
          have h1 : tgOk N X.env.scope i y = true := h1
          obtain ⟨a1, a2⟩ := band h1
          obtain ⟨a2, a3⟩ := band a2
          have hi : X.N[i]? = some y := by rw [n]; exact of_decide_eq_true a1
          have fin : ∀ hs, PS X (.Assign [.Name y q] v p) (tS g.B W (exS (.set (.nm i) e))) := fun hs => PS.imp (ps_set cx.nd hi (loc_of a2) pe hs (.inl (cx.fna y))) fun De σ H z => asg_go z
          cases v with
          | ListComp elt gs scope p2 =>
            cases hsw : lcSw X.env.scope y q scope p2 with
            | false => exact fin ((lc_sw cx.kind _ _ _ _ _ _ _).trans (by rw [hsw]))
            | true =>
              have h3 : (isLc e || !lcSw X.env.scope y q scope p2) = true := h3
              rw [hsw] at h3
              obtain ⟨m, tg, it, c, e', rfl⟩ := is_lc (e := e) (by simpa using h3)
              obtain ⟨j1, j2, j3⟩ := il
              have hl : X.env.scope.names.lookup y = some .local := by
                unfold lcSw at hsw
                simp only [Bool.and_eq_true] at hsw
                exact eq_of_beq hsw.1.1
              exact PS.imp (lc_set j1 j2 j3 cx n h2 hi hl hsw) fun De σ H z => asg_go z
          | SetComp _ _ _ _ => cases h3
          | DictComp _ _ _ _ _ => cases h3
          | _ => exact fin rfl
      | Tuple ts j q =>
        obtain ⟨h4, h5⟩ := band (show (notComp v && seqC X.env.scope ts v) = true from h3)
        cases tg with
        | nm i => cases h1
        | tp is =>
          refine PS.imp (ps_asg (i1.v cx.toCtx n h2) (pg_tg cx.toCtx (tg := .tp is) (by rw [n]; exact h1) (cx_own cx _)) (tup_sw h4) (seq_sw h5)) fun De σ H z => asg_go z
      | _ => cases h3
    | [], h => cases h
    | t1 :: _ :: _, h => cases h
  | _ => cases h
theorem tgs_shape {sc : Scope} : ∀ (is : List Nat) (ts : List PySem.Expr), tgsOk N sc is ts = true → ts.length = is.length ∧ ∀ t ∈ ts, ∃ x p, t = .Name x p
  | [], [], _ => ⟨rfl, fun t h => by cases h⟩
  | [], _ :: _, h => by cases h
  | _ :: _, [], h => by cases h
  | i :: is, t :: ts, h => by
    cases t with
    | Name x p =>
      obtain ⟨_, h2⟩ := band (show (tgOk N sc i x && tgsOk N sc is ts) = true from h)
      obtain ⟨l, r⟩ := tgs_shape is ts h2
      refine ⟨by simp [l], fun t ht => ?_⟩
      rcases List.mem_cons.mp ht with e | e
      · exact ⟨x, p, e⟩
      · exact r t e
    | _ => cases h
theorem fm_full {α β : Type} (f : α → Option β) : ∀ l : List α, (l.filterMap f).length = l.length → ∀ t ∈ l, (f t).isSome = true
  | [], _ => fun t h => by cases h
  | a :: l, h => by
    cases e : f a with
    | none =>
      rw [List.filterMap_cons_none e] at h
      have := List.length_filterMap_le f l
      rw [List.length_cons] at h
      omega
    | some b =>
      rw [List.filterMap_cons_some e, List.length_cons, List.length_cons] at h
      have ih := fm_full f l (by omega)
      intro t ht
      rcases List.mem_cons.mp ht with q | q
      · rw [q, e] <;> rfl
      · exact ih t q
theorem sw_nm {sc : Scope} {ln : Nat} {x : Str} {p : Pos} (h : (swF sc ln (.Name x p)).isSome = true) : swF sc ln (.Name x p) = some x ∧ sc.names.lookup x = some .local := by
  have h : (if sc.names.lookup x == some .local && p.line == ln then some x else none : Option Str).isSome = true := h
  show (if sc.names.lookup x == some .local && p.line == ln then some x else none : Option Str) = some x ∧ _
  by_cases c : (sc.names.lookup x == some .local && p.line == ln) = true
  · rw [if_pos c]
    exact ⟨rfl, eq_of_beq (Bool.and_eq_true_iff.mp c).1⟩
  · rw [if_neg c] at h
    cases h
theorem sm_par (is : List Nat) (es : E) (i1 : Snd g k N es) : SndS g k N (.par is es) := by
  refine SndS.sole (f := _) rfl fun {X W st} cx n h => ?_
  cases st with
  | Assign ts v p =>
    match ts, h with
    | [t], h =>
      cases t with
      | Tuple ts j q =>
        cases v with
        | Tuple vs j2 q2 =>
          obtain ⟨h1, h2⟩ := band (show (tgsOk N X.env.scope is ts && (parC X.env.scope ts vs is && (chk N es).a X.env.scope vs)) = true from h)
          obtain ⟨h2, h3⟩ := band h2
          have sw := par_sw (j := j) (j2 := j2) (p := q) (p2 := q2) cx.kind h2
          obtain ⟨pa, ns⟩ := i1.a (W := W) cx.toCtx n h3
          obtain ⟨c1, c2⟩ := band h2
          obtain ⟨c2, c3⟩ := band c2
          obtain ⟨c3, c4⟩ := band c3
          obtain ⟨c4, c5⟩ := band c4
          obtain ⟨c5, c6⟩ := band c5
          obtain ⟨c6, c7⟩ := band c6
          obtain ⟨c7, c8⟩ := band c7
          have nd : is.Nodup := of_decide_eq_true c8
          have go : ∀ {De : Ends} {σ : L2.St} {H : Hp} {Q : List V → Hp → Prop}, tS g.B W (exS (.par is es)) De σ H → (∀ vs H1, vs.length = is.length → De.nx (setAll σ is vs) H1 → Q vs H1) → tA g.B W es σ H Q := by
            intro De σ H Q ⟨ρ, env, S, hs, s, gg⟩ hq
            refine evAl hs s gg fun ds us ρ1 S1 H1 e1 hs1 s1 r g1 => ?_
            by_cases c : ds.length = is.length
            · rw [if_pos c] at g1
              exact hq us H1 (by rw [← r.len]; exact c) (GoS.now (hs1.setAll r) s1 g1)
            · rw [if_neg c] at g1
              exact g1.elim
          have l2 : vs.length = ts.length := eq_of_beq c2
          have e4 : (swN X.env.scope ts).length = ts.length := eq_of_beq c4
          obtain ⟨ll, nms⟩ := tgs_shape is ts h1
          have lc : ts.length = 2 ∨ ts.length = 3 := by simpa using c1
          rcases lc with lc | lc
          · obtain ⟨ta, tb, rfl⟩ := len2 lc
            obtain ⟨a, b, rfl⟩ := len2 l2
            obtain ⟨i, j', rfl⟩ := len2 ll.symm
            · obtain ⟨x, px, rfl⟩ := nms ta (by simp)
              obtain ⟨y, py, rfl⟩ := nms tb (by simp)
              obtain ⟨t1, t2⟩ := band (show (tgOk N X.env.scope i x && (tgOk N X.env.scope j' y && true)) = true from h1)
              obtain ⟨t2, _⟩ := band t2
              obtain ⟨t1, t3⟩ := band t1
              obtain ⟨t2, t4⟩ := band t2
              have sn : swN X.env.scope [.Name x px, .Name y py] = [x, y] ∧ X.env.scope.names.lookup x = some .local ∧ X.env.scope.names.lookup y = some .local := by
                have m1 := fm_full _ _ e4
                have q1 := sw_nm (m1 _ List.mem_cons_self)
                have q2 := sw_nm (m1 _ (List.mem_cons_of_mem _ List.mem_cons_self))
                refine ⟨?_, q1.2, q2.2⟩
                unfold swN
                rw [List.filterMap_cons_some q1.1, List.filterMap_cons_some q2.1, List.filterMap_nil]
              obtain ⟨s1, s2, s3⟩ := sn
              rw [s1] at sw
              refine PS.imp (ps_par cx.calm cx.nd (by rw [n]; exact of_decide_eq_true t1) (by rw [n]; exact of_decide_eq_true t2) (by simpa using nd) s2 s3 pa sw) fun De σ H z => ?_
              refine go z fun us H1 hl q => ?_
              match us, hl with
              | [u, w], _ => exact ⟨u, w, rfl, q⟩
          · obtain ⟨ta, tb, tc, rfl⟩ := len3 lc
            obtain ⟨a, b, c, rfl⟩ := len3 l2
            obtain ⟨i, j', l, rfl⟩ := len3 ll.symm
            · obtain ⟨x, px, rfl⟩ := nms ta (by simp)
              obtain ⟨y, py, rfl⟩ := nms tb (by simp)
              obtain ⟨z, pz, rfl⟩ := nms tc (by simp)
              obtain ⟨t1, t2⟩ := band (show (tgOk N X.env.scope i x && (tgOk N X.env.scope j' y && (tgOk N X.env.scope l z && true))) = true from h1)
              obtain ⟨t2, t5⟩ := band t2
              obtain ⟨t5, _⟩ := band t5
              obtain ⟨t1, t3⟩ := band t1
              obtain ⟨t2, t4⟩ := band t2
              obtain ⟨t5, t6⟩ := band t5
              have sn : swN X.env.scope [.Name x px, .Name y py, .Name z pz] = [x, y, z] ∧ X.env.scope.names.lookup x = some .local ∧ X.env.scope.names.lookup y = some .local ∧ X.env.scope.names.lookup z = some .local := by
                have m1 := fm_full _ _ e4
                have q1 := sw_nm (m1 _ List.mem_cons_self)
                have q2 := sw_nm (m1 _ (List.mem_cons_of_mem _ List.mem_cons_self))
                have q3 := sw_nm (m1 _ (List.mem_cons_of_mem _ (List.mem_cons_of_mem _ List.mem_cons_self)))
                refine ⟨?_, q1.2, q2.2, q3.2⟩
                unfold swN
                rw [List.filterMap_cons_some q1.1, List.filterMap_cons_some q2.1, List.filterMap_cons_some q3.1, List.filterMap_nil]
              obtain ⟨s1, s2, s3, s4⟩ := sn
              rw [s1] at sw
              have nd : i ≠ j' ∧ i ≠ l ∧ j' ≠ l := by simp at nd; exact ⟨nd.1.1, nd.1.2, nd.2⟩
              refine PS.imp (ps_par3 cx.calm cx.nd (by rw [n]; exact of_decide_eq_true t1) (by rw [n]; exact of_decide_eq_true t2) (by rw [n]; exact of_decide_eq_true t5) nd.1 nd.2.1 nd.2.2 s2 s3 s4 pa sw) fun De σ H z => ?_
              refine go z fun us H1 hl q => ?_
              match us, hl with
              | [u, v, w], _ => exact ⟨u, v, w, rfl, q⟩
        | _ => cases h
      | _ => cases h
    | [], h => cases h
    | t1 :: _ :: _, h => cases t1 <;> cases h
  | _ => cases h
end Py
-- PyT
namespace Py
open PySem PySem.Spec PyProof.Rows L2
variable {g : Gx} {k : Nat} {N : List Str} {ρ2 : Rh} {H2 : Hp}
/-! ### 29. loops -/
theorem GoS.bdk {tg : Tg} {d : D} {v : V} {q : MS} {De : Ends} {Q : L2.St → Hp → Prop} (s : Sim B ρ S H) (hs : RepS B ρ H env σ) (r : Rep B ρ H d v) (gg : GoS B W De ρ H ((MS.bd tg d).seq q env S))
    (hk : ∀ env' σ', RepS B ρ H env' σ' → GoS B W De ρ H (q env' S) → Q σ' H) : gT B tg v σ H Q := by
  have g1 : Go B ρ H (M.bind (bindT tg d env) M.pure S) (fun env' ρ' S' H' => GoS B W De ρ' H' (q env' S')) (fun _ _ _ _ => False) := by
    unfold MS.seq MS.bd at gg
    unfold M.bind
    cases e : bindT tg d env S with
    | ok env1 S1 =>
      rw [e] at gg
      exact fun ρ' H' e1 s1 => GoS.later e1 gg
    | exc x S1 => rw [e] at gg; exact gg.elim
    | stuck => rw [e] at gg; exact gg
  exact bindT_ok (tg := tg) s hs r g1 fun env' σ' h' _ g2 => hk env' σ' h' (Go.now s g2)
theorem MS.ev_ok {α : Type} {m : Env → M α} {f : α → MS} {a : α} (h : m env S = .ok a S') : MS.ev m f env S = f a env S' := by
  unfold MS.ev
  rw [h]
theorem MS.ev_exc {α : Type} {m : Env → M α} {f : α → MS} {x : Exn} (h : m env S = .exc x S') : MS.ev m f env S = .exc x env S' := by
  unfold MS.ev
  rw [h]
theorem MS.ev_stuck {α : Type} {m : Env → M α} {f : α → MS} (h : m env S = .stuck) : MS.ev m f env S = .stuck := by
  unfold MS.ev
  rw [h]
theorem GoS.still {src : Src} {q : MS} {De : Ends} (gg : GoS B W De ρ H (MS.ev (fun _ => Py.still src) (fun _ => q) env S)) : src.holds S ∧ GoS B W De ρ H (q env S) := by
  rcases still_cases src S with ⟨e, c⟩ | e
  · rw [MS.ev_ok (m := fun _ => Py.still src) e] at gg
    exact ⟨c, gg⟩
  · rw [MS.ev_stuck (m := fun _ => Py.still src) e] at gg
    exact gg.elim
theorem for_ok {W : WX} {tg : Tg} {it : E} {b : Sm} {De : Ends} (h : tS B W (exS (.for tg it b)) De σ H) : tFor (tI B W it) (gT B tg) (tS B W (exS b)) De σ H := by
  obtain ⟨ρ, env, S, hs, s, gg⟩ := h
  refine ⟨ρ, env, S, hs, s, (GoS.ev hs gg).imp (fun src ρ1 S1 H1 e1 s1 g1 J ij => ?_) fun _ _ _ _ _ _ q => q⟩
  refine ⟨fun i m σ' H' => m = src.items.length - i ∧ i ≤ src.items.length ∧ ∃ ρ' env' S', Ext ρ1 H1 ρ' H' ∧ RepS B ρ' H' env' σ' ∧ Sim B ρ' S' H' ∧ GoS B W De ρ' H' (forW src tg (exS b) (src.items.drop i) env' S'), ⟨src.items.length, ?_⟩, ?_⟩
  · exact ⟨by simp, Nat.zero_le _, ρ1, env, S1, .refl, hs.mono e1, s1, by rw [List.drop_zero]; exact g1⟩
  · rintro i m σ' H' ⟨rfl, hi, ρ', env', S', ex, hs', s', g'⟩
    by_cases lt : i < src.items.length
    · right
      have hdrop : src.items.drop i = src.items[i] :: src.items.drop (i + 1) := List.drop_eq_getElem_cons lt
      rw [hdrop] at g'
      obtain ⟨q0, g2⟩ := GoS.still (q := (MS.bd tg src.items[i]).seq ((exS b).loop (forW src tg (exS b) (src.items.drop (i + 1))))) g'
      have hget : src.items[i]? = some src.items[i] := by simp [lt]
      obtain ⟨jg, jy⟩ := ij.go ρ' S' H' ex.mv ex.frz s' q0 i _ hget
      refine ⟨jg, fun σ3 H3 => ∃ ρ3 env3 S3, Ext ρ1 H1 ρ3 H3 ∧ RepS B ρ3 H3 env3 σ3 ∧ Sim B ρ3 S3 H3 ∧ GoS B W De ρ3 H3 (forW src tg (exS b) (src.items.drop (i + 1)) env3 S3), ?_, ?_⟩
      · rintro σ3 H3 ⟨ρ3, env3, S3, e3, h3, s3, g3⟩
        exact ⟨src.items.length - (i + 1), by omega, rfl, lt, ρ3, env3, S3, e3, h3, s3, g3⟩
      · intro x Hy hy
        obtain ⟨ob, p, hh, rx⟩ := jy x Hy hy
        obtain ⟨ext, sy⟩ : Ext ρ' H' ρ' Hy ∧ Sim B ρ' S' Hy := by
          rcases hh with rfl | ⟨np, rfl⟩
          · exact ⟨.refl, s'⟩
          · exact ⟨Ext.alloc s' _ np, s'.alloc _ np⟩
        refine GoS.bdk sy (hs'.mono ext) rx (GoS.later ext g2) fun env2 σ2 h2 g3 => ?_
        refine ⟨ρ', env2, S', h2, sy, GoS.loop g3 fun ρ4 env4 S4 H4 σ4 e4 h4 s4 g4 => ?_⟩
        exact ⟨ρ4, env4, S4, (ex.trans ext).trans e4, h4, s4, g4⟩
    · left
      have e0 : i = src.items.length := by omega
      subst e0
      rw [List.drop_length] at g'
      obtain ⟨q0, g2⟩ := GoS.still (q := MS.nx) g'
      exact ⟨ij.stop ρ' S' H' ex.mv ex.frz s' q0, GoS.now hs' s' g2⟩
theorem sm_for (tg : Tg) (it : E) (b : Sm) (i1 : Snd g k N it) (i2 : SndS g k N b) : SndS g k N (.for tg it b) := by
  refine SndS.sole (f := _) rfl fun {X W st} cx n h => ?_
  cases st with
  | For t it' b' oe p =>
    cases oe with
    | nil =>
      obtain ⟨h1, hh⟩ := band (show (chkT N X.env.scope tg t && ((chk N it).i X.env.scope t it' && (chkS N b).ss X.env.scope b')) = true from h)
      obtain ⟨h2, h3⟩ := band hh
      obtain ⟨pi, ns⟩ := i1.i (W := W) cx.toCtx n h2
      exact PS.imp (ps_for cx.ps cx.calm pi (pg_tg cx.toCtx (by rw [n]; exact h1) (cx_own cx _)) (i2.ss cx n h3) (set_none ns)) fun De σ H z => for_ok z
    | cons _ _ => cases h
  | _ => cases h
theorem whl_ok {W : WX} {c : E} {b : Sm} {De : Ends} (h : tS B W (exS (.whl c b)) De σ H) : tWhile (tT B W c) (tS B W (exS b)) De σ H := by
  obtain ⟨ρ, env, S, hs, s, gg⟩ := h
  have gg : GoS B W De ρ H (whlW (tst c) (exS b) env S) := gg
  unfold whlW at gg
  split at gg
  · rename_i hx
    refine ⟨fun m σ' H' => ∃ ρ' env' S', RepS B ρ' H' env' σ' ∧ Sim B ρ' S' H' ∧ GoS B W De ρ' H' (whlN (tst c) (exS b) m env' S'), ⟨hx.choose, ρ, env, S, hs, s, gg⟩, ?_⟩
    rintro m σ' H' ⟨ρ', env', S', hs', s', g'⟩
    cases m with
    | zero => exact g'.elim
    | succ m =>
      refine evT hs' s' (f := fun q => if q then (exS b).loop (whlN (tst c) (exS b) m) else .nx) g' fun q ρ1 S1 H1 e1 hs1 s1 g1 => ?_
      cases q with
      | true =>
        rw [if_pos rfl]
        refine ⟨fun σ3 H3 => ∃ ρ3 env3 S3, RepS B ρ3 H3 env3 σ3 ∧ Sim B ρ3 S3 H3 ∧ GoS B W De ρ3 H3 (whlN (tst c) (exS b) m env3 S3), fun σ3 H3 z => ⟨m, Nat.lt_succ_self m, z⟩, ?_⟩
        exact ⟨ρ1, env', S1, hs1, s1, GoS.loop g1 fun ρ4 env4 S4 H4 σ4 e4 h4 s4 g4 => ⟨ρ4, env4, S4, h4, s4, g4⟩⟩
      | false =>
        rw [if_neg Bool.false_ne_true]
        exact GoS.now hs1 s1 g1
  · exact gg.elim
theorem sm_whl (c : E) (b : Sm) (i1 : Snd g k N c) (i2 : SndS g k N b) : SndS g k N (.whl c b) := by
  refine SndS.sole (f := _) rfl fun {X W st} cx n h => ?_
  cases st with
  | While c' b' oe p =>
    cases oe with
    | nil =>
      obtain ⟨h1, h2⟩ := band (show ((chk N c).t X.env.scope c' && (chkS N b).ss X.env.scope b') = true from h)
      exact PS.imp (ps_while cx.ps (i1.t cx.toCtx n h1) (i2.ss cx n h2)) fun De σ H z => whl_ok z
    | cons _ _ => cases h
  | _ => cases h
/-! ### 30. raise -/
theorem rs_go {W : WX} {De : Ends} {es : E} {f : List D → M Exn} (hs : RepS B ρ H env σ) (gg : GoS B W De ρ H (MS.ev (evA es) (fun ds => MS.ev (fun _ => f ds) MS.exc) env S)) :
    Go B ρ H (M.bind (evA es env) f S) (fun x ρ' _ H' => ∀ cls dd, RepX B ρ' H' x cls dd → W cls dd σ H') (KX B W σ) := by
  cases e1 : evA es env S with
  | stuck => rw [MS.ev_stuck e1] at gg; exact gg.elim
  | exc x S1 =>
    rw [MS.ev_exc e1] at gg
    unfold M.bind
    rw [e1]
    exact fun ρ' H' e s1 cls dd rx => gg ρ' H' σ e s1 (hs.mono e) cls dd rx
  | ok ds S1 =>
    rw [MS.ev_ok e1] at gg
    rw [M.bind_of e1]
    cases e2 : f ds S1 with
    | stuck => rw [MS.ev_stuck (m := fun _ => f ds) e2] at gg; exact gg.elim
    | exc x S2 =>
      rw [MS.ev_exc (m := fun _ => f ds) e2] at gg
      exact fun ρ' H' e s1 cls dd rx => gg ρ' H' σ e s1 (hs.mono e) cls dd rx
    | ok x S2 =>
      rw [MS.ev_ok (m := fun _ => f ds) e2] at gg
      exact fun ρ' H' e s1 cls dd rx => gg ρ' H' σ e s1 (hs.mono e) cls dd rx
theorem sm_rs (c : Str) (f : List D → M Exn) (es : E) (ok : ExcSem g k c f) (i1 : Snd g k N es) : SndS g k N (.rs c f es) := by
  refine SndS.sole (f := _) rfl fun {X W st} cx n h => ?_
  cases st with
  | Raise e cause p =>
    cases e with
    | none => cases h
    | some e =>
      cases e with
      | Call fn ys kws cp =>
        cases fn with
        | Name x q =>
          cases kws with
          | nil =>
            cases cause with
            | none =>
              cases ys with
              | nil => cases h
              | cons y ys =>
                obtain ⟨h1, hh⟩ := band (show (decide (c = x) && (nameOk X.env.scope x && (chk N es).a X.env.scope (y :: ys))) = true from h)
                obtain ⟨h2, h3⟩ := band hh
                have ex : c = x := of_decide_eq_true h1
                obtain ⟨pa, ns⟩ := i1.a (W := W) cx.toCtx n h3
                rw [← ex] at h2 ⊢
                refine PS.imp (ps_raise cx.calm cx.tk (ok X W q cp y ys es cx.toCtx h2 pa ns)) fun De σ H ⟨ρ, env, S, hs, s, gg⟩ => ?_
                exact ⟨ρ, env, S, hs, s, rs_go hs gg⟩
            | some _ => cases ys <;> cases h
          | cons _ _ => cases ys <;> cases h
        | _ => cases h
      | _ => cases h
  | _ => cases h
end Py
-- PyU
namespace Py
open PySem PySem.Spec PyProof.Rows L2
variable {g : Gx} {k : Nat} {N : List Str} {ρ2 : Rh} {H2 : Hp}
/-! ### 31. try with several clauses, each with a name or without; the suites return -/
structure Cl1 where
  c : Value
  as : Option Nat
  ts : Addr → Value → Option Addr → TS
def asIn (o : Option Nat) (a : Addr) (σ : L2.St) : L2.St := match o with
  | some i => σ.set i (some (.ref a))
  | none => σ
def wCl (K : PySem.W.Frag) (Wo : WX) (rt : VK) : List Cl1 → WX
  | [] => Wo
  | q :: r => fun cls d σ H => ∃ b, PySem.W.exmOne K cls q.c = some b ∧ (b = true → ∀ a, H a = none → q.ts a cls d { nx := fun _ _ => False, rt := rt } (asIn q.as a σ) H) ∧ (b = false → wCl K Wo rt r cls d σ H)
def NmOk (X : Cx) : Option Nat → Option Str → Prop
  | some i, some n => X.N[i]? = some n ∧ X.env.kindOf n = some .local
  | none, none => True
  | _, _ => False
inductive Cls1 (X : Cx) : List ExceptHandler → List Cl1 → Prop
  | nil : Cls1 X [] []
  | cons {x : Str} {n : Option Str} {q : Cl1} {b₀ : Stmt} {su : List Stmt} {np hp : Pos} {hs : List ExceptHandler} {l : List Cl1} (nm : Names X x q.c) (no : NmOk X q.as n)
      (hsu : ∀ (a : Addr) (oe : Obj) (cls : Value) (d : Option Addr) (pn : List (Addr × Obj)), Zc cls d oe → (∃ vs, oe.data = .fields vs) → PSs (X.suite a ((a, oe) :: pn)) (b₀ :: su) (q.ts a cls d)) (r : Cls1 X hs l) :
      Cls1 X (.ExceptHandler (some (.Name x np)) n (b₀ :: su) hp :: hs) (q :: l)
theorem ps_tryG {X : Cx} {body : List Stmt} {h₀ : ExceptHandler} {hds : List ExceptHandler} {l : List Cl1} {pos : Pos} {tb : WX → TS} {Wo : WX} (nd : X.N.Nodup) (hs : X.stack = X.env :: X.outer) (hf : X.env.frame = some X.env.locals) (tk : Takes X Wo)
    (hb : ∀ (W : WX) (pn : List (Addr × Obj)) (xe : Value → Shared → Prop), Takes (X.tr pn xe) W → PassesOwn (model X.prog X.w) X.A X.env xe → PSs (X.tr pn xe) body (tb W))
    (hh : Cls1 X (h₀ :: hds) l) : PS X (.Try body (h₀ :: hds) [] [] pos) (fun De σ H => tb (wCl X.K Wo De.rt l) De σ H) := by
  constructor
  intro pins s σ H De I hyp
  have okX := I.ok
  have frm : X.A.frames = some (X.env :: X.outer) := by rw [okX.frames, hs]
  refine wpAny_Try_except ?_
  have bodyRun := (hb (wCl X.K Wo De.rt l) (X.pn ++ pins)
    (fun e t₁ => wpAny (model X.prog X.w) X.A (noteFrame e X.env) (fun _ t₂ => wpAny (model X.prog X.w) X.A (setFlight e none) (fun _ t₃ =>
      wpAny (model X.prog X.w) X.A (handleBy e X.env (h₀ :: hds)) (SP X pins De) X.xe t₃) X.xe t₂) X.xe t₁)
    (fun u s' air => ?caught) PassesOwn.looking).run [] s σ H De (I.toTry _) hyp
  case caught =>
    obtain ⟨a, G, sI, pins', σ', H', cls, d, rfl, Jt, nb, up, sky, na, eos, bare, w⟩ := air
    have J : Inv X pins σ' H' sI := Jt.ofTry okX
    have sky1 : Sky G (X.env :: X.outer) a (Zc cls d) X.env.locals s'.heap := by rw [← hs]; exact sky
    show wpAny (model X.prog X.w) X.A (noteFrame (.ref a) X.env) _ _ _
    refine Sky.land Zc.steady frm hf sky1 fun h3 fl up3 => ?_
    have J3 : Inv X pins σ' H' { s' with heap := h3 } := J.landed nb fl.1 (up.trans up3) eos bare
    obtain ⟨oe, vs, heo, hz, hdat⟩ := fl.there
    have noFrame : a ∉ frs (X.env :: X.outer) := fun hm => by
      obtain ⟨_, o', e', hnf⟩ := fl.2.2.1.mem hm
      rw [heo] at e'
      cases e'
      exact hnf _ hdat
    have neL : a ≠ X.env.locals := fun z => noFrame (List.mem_filterMap.mpr ⟨X.env, List.mem_cons_self, by rw [hf, z]⟩)
    have neF : a ∉ X.fs := fun hm => by
      obtain ⟨e, he, q⟩ := List.mem_filterMap.mp hm
      exact noFrame (List.mem_filterMap.mpr ⟨e, List.mem_cons_of_mem _ he, q⟩)
    have S3 := J3.suite heo hdat na neL neF
    have clauses : ∀ {hs' : List ExceptHandler} {l' : List Cl1}, Cls1 X hs' l' → wCl X.K Wo De.rt l' cls d σ' H' →
        wpAny (model X.prog X.w) X.A (handleBy (.ref a) X.env hs') (SP X pins De) X.xe { s' with heap := h3 } := by
      intro hs' l' hk
      induction hk with
      | nil =>
        intro w
        refine wpAny_handleBy_nil ?_
        obtain ⟨_, _, _, ob, vv, T, oT, tt, hob, _, hfd, h1, _⟩ := id fl
        unfold PySem.passOn
        refine wpAny_bind (wpAny_field hob hfd h1 ?_)
        rw [if_neg (show ¬ ((Value.ref T == Value.none) = true) by simp)]
        have leave : wpAny (model X.prog X.w) X.A (setFlight (.ref a) X.env.frame) (fun _ t => wpAny (model X.prog X.w) X.A (throw (.ref a) : PySem.Sem Flow) (SP X pins De) X.xe t) X.xe { s' with heap := h3 } := by
          rw [hf]
          exact HandSPX.setFlight_upZ fl fun h4 up1 up4 => wpAny_throw (tk _ _
            ⟨a, G, sI, pins, σ', H', cls, d, rfl, J, nb, (up.trans up3).trans up4, .inr (.inr (by rw [hs]; exact up1)), na, eos, bare, w⟩)
        first
          | exact wpAny_bind (wpAny_pure (wpAny_bind leave))
          | exact wpAny_bind leave
      | @cons x n q b₀ su np hp hds2 l2 nm no hsu r ih =>
        intro w
        obtain ⟨b, hb1, yes, nop⟩ := w
        refine wpAny_handleBy_cons (codeAny_handlers_test ?_) (by intro q; cases q)
        have lt : PySem.W.Looks (model X.prog X.w) h3 (typeOf (.ref a)) cls := fun A Q E s kp q => wpAny_typeOf_ref (kp _ _ heo) (by rw [hz.1]; exact q)
        have lm := PySem.W.exm_one (M := model X.prog X.w) (J3.kIn) lt hb1
        have look : ∀ {Q E : Value → Shared → Prop}, Q q.c { s' with heap := h3 } → wpAny (model X.prog X.w) (X.A.mark (some (.ref a))) (eval (.Name x np) X.env) Q E { s' with heap := h3 } := fun {Q E} z => by
          obtain ⟨hg, hdbg, hm | ⟨hm, hv, hnn⟩⟩ := nm
          · exact ld_glob (X := X.suite a ((a, oe) :: (X.pn ++ pins))) S3 hg hm z hdbg
          · exact ld_blt (X := X.suite a ((a, oe) :: (X.pn ++ pins))) S3 hg hm hv z hnn hdbg
        refine look (lm.here ?_)
        cases b with
        | false =>
          show wpAny _ X.A (handleBy (.ref a) X.env hds2) _ _ _
          exact ih (nop rfl)
        | true =>
          obtain ⟨qc, qas, qts⟩ := q
          cases qas with
          | none =>
            cases n with
            | some n => exact no.elim
            | none =>
              refine codeAny_handlers_suite ?_
              refine HandSPX.lands_againZ fl fun h4 fl4 up4 => ?_
              have J4 : Inv X pins σ' H' { s' with heap := h4 } := J.landed nb fl4.1 ((up.trans up3).trans up4) eos bare
              obtain ⟨oe4, _, he4, hz4, hd4⟩ := fl4.there
              have S4 := J4.suite he4 hd4 na neL neF
              refine wpAny_mono ((hsu a oe4 cls d (X.pn ++ pins) hz4 ⟨_, hd4⟩).run [] _ _ H' _ S4 (yes rfl a na)) (fun f s6 res => ?_) (fun _ _ z => False.elim z)
              cases f with
              | ret u =>
                obtain ⟨v, σ6, H6, S6, r6, q6⟩ := res
                exact ⟨_, _, _, S6.unsuite okX, r6, q6⟩
              | next => obtain ⟨_, _, _, q6⟩ := res; exact q6.elim
              | brk => obtain ⟨_, _, _, q6⟩ := res; exact q6.elim
              | cont => obtain ⟨_, _, _, q6⟩ := res; exact q6.elim
          | some i =>
            cases n with
            | none => exact no.elim
            | some n =>
              obtain ⟨ni, nl⟩ := no
              refine codeAny_handlers_suite_as ?_
              refine HandSPX.lands_againZ fl fun h4 fl4 up4 => ?_
              have J4 : Inv X pins σ' H' { s' with heap := h4 } := J.landed nb fl4.1 ((up.trans up3).trans up4) eos bare
              obtain ⟨oe4, _, he4, hz4, hd4⟩ := fl4.there
              have S4 := J4.suite he4 hd4 na neL neF
              refine store_ok (X := X.suite a ((a, oe4) :: (X.pn ++ pins))) (v := .ref a) S4 nd ni (.inl nl) rfl (fun s5 S5 => ?_) (.inr nl)
              refine wpAny_mono ((hsu a oe4 cls d (X.pn ++ pins) hz4 ⟨_, hd4⟩).run [] s5 _ H' _ S5 (yes rfl a na)) (fun f s6 res => ?_) (fun _ _ z => False.elim z)
              cases f with
              | ret u =>
                obtain ⟨v, σ6, H6, S6, r6, q6⟩ := res
                exact gone_ok (S6.unsuite okX) nd ni nl fun s7 J7 => ⟨_, _, _, J7, r6, q6⟩
              | next => obtain ⟨_, _, _, q6⟩ := res; exact q6.elim
              | brk => obtain ⟨_, _, _, q6⟩ := res; exact q6.elim
              | cont => obtain ⟨_, _, _, q6⟩ := res; exact q6.elim
    exact clauses hh w
  refine wpAny_mono bodyRun (fun f s1 res => ?_) (fun e s1 he => he)
  cases f with
  | next =>
    obtain ⟨σ', H', J', q⟩ := res
    exact wpAny_execs_nil ⟨σ', H', J'.ofTry okX, q⟩
  | brk =>
    obtain ⟨σ', H', J', q⟩ := res
    exact ⟨σ', H', J'.ofTry okX, q⟩
  | cont =>
    obtain ⟨σ', H', J', q⟩ := res
    exact ⟨σ', H', J'.ofTry okX, q⟩
  | ret u =>
    obtain ⟨v, σ', H', J', r, q⟩ := res
    exact ⟨v, σ', H', J'.ofTry okX, r, q⟩
end Py
-- PyV
namespace Py
open PySem PySem.Spec PyProof.Rows L2
variable {g : Gx} {k : Nat} {N : List Str} {ρ2 : Rh} {H2 : Hp}
/-! ### 32. what a suite says -/
/-- the reading of a suite's expression: a the caught exception -/
def tX {α : Type} (B : Bs) (a : Addr) (cls : Value) (d : Option Addr) (x : Exn) (as : Option Nat) (KK : α → Rh → Store → Hp → Prop) (m : Env → M α) (σ : L2.St) (H : Hp) : Prop :=
  ∃ ρ env S, RepS B ρ H env σ ∧ Sim B ρ S H ∧ RepX B ρ H x cls d ∧ (∀ i, as = some i → σ[i]? = some (some (.ref a))) ∧ Go B ρ H (m env S) KK (fun _ _ _ _ => False)
def tXE (B : Bs) (a : Addr) (cls : Value) (d : Option Addr) (x : Exn) (as : Option Nat) (c : Xe) : TE := fun σ H Q => tX B a cls d x as (KV1 B Q) ((xeR c).v x) σ H
def tXA (B : Bs) (a : Addr) (cls : Value) (d : Option Addr) (x : Exn) (as : Option Nat) (c : Xe) : TA := fun σ H Q => tX B a cls d x as (KL1 B Q) ((xeR c).a x) σ H
/-- where a suite stands -/
structure Sx (g : Gx) (Y : Cx) (sc : Scope) (N : List Str) (as : Option Nat) (X : Cx) (a : Addr) (oe : Obj) (cls : Value) (d : Option Addr) (x : Exn) (c : Xe) : Prop where
  y : ∃ pn, Y = X.suite a ((a, oe) :: pn)
  K : X.K = g.B.K
  mg : X.mg = g.mg
  sc : X.env.scope = sc
  n : X.N = N
  zc : Zc cls d oe
  fi : ∃ vs, oe.data = .fields vs
  xf : XfC g.B.K (He.ga g.B.K x.cls)
  fl : ∀ f ∈ flds c, PySem.W.findIn g.B.K (.ref (He.ga g.B.K x.cls)) f = some none
section
variable {Y X : Cx} {sc : Scope} {as : Option Nat} {a : Addr} {oe : Obj} {cls : Value} {d : Option Addr} {x : Exn}
theorem Sx.sub {c c' : Xe} (h : Sx g Y sc N as X a oe cls d x c) (hf : ∀ f ∈ flds c', f ∈ flds c) : Sx g Y sc N as X a oe cls d x c' :=
  ⟨h.y, h.K, h.mg, h.sc, h.n, h.zc, h.fi, h.xf, fun f hm => h.fl f (hf f hm)⟩
theorem con_pe {dd : D} {cc : Const} {j : Nat} {p : Pos} (h : conIs dd cc = true) : ∃ v, PE Y (.Constant cc j p) (tC v) ∧ ∀ (B : Bs) ρ H, Rep B ρ H dd v := by
  cases dd with
  | non => cases cc with
    | none => exact ⟨_, pe_non, fun _ _ _ => .non⟩
    | _ => cases h
  | bl b => cases cc with
    | bool b' =>
      have : b = b' := eq_of_beq h
      subst this
      exact ⟨_, pe_bl, fun _ _ _ => .bl _⟩
    | _ => cases h
  | int b => cases cc with
    | int b' =>
      have : b = b' := of_decide_eq_true h
      subst this
      exact ⟨_, pe_int, fun _ _ _ => .int _⟩
    | _ => cases h
  | str b => cases cc with
    | str b' =>
      have : b = b' := of_decide_eq_true h
      subst this
      exact ⟨_, pe_str, fun _ _ _ => .str _⟩
    | _ => cases h
  | _ => cases cc <;> cases h
theorem tX.bind {α β : Type} {B : Bs} {m : Env → M α} {f : α → Env → M β} {KK : β → Rh → Store → Hp → Prop} {Q : α → Rh → Store → Hp → Prop} (h : tX B a cls d x as KK (fun env => M.bind (m env) fun z => f z env) σ H)
    (hq : ∀ z ρ env S H, RepS B ρ H env σ → Sim B ρ S H → RepX B ρ H x cls d → Go B ρ H (f z env S) KK (fun _ _ _ _ => False) → Q z ρ S H) : tX B a cls d x as Q m σ H := by
  obtain ⟨ρ, env, S, hs, s, rx, ha, gg⟩ := h
  exact ⟨ρ, env, S, hs, s, rx, ha, (Go.bindM gg).imp (fun z ρ1 S1 H1 e1 s1 g1 => hq z ρ1 env S1 H1 (hs.mono e1) s1 (rx.mono e1) g1) fun _ _ _ _ _ _ q => q⟩
structure SndX (g : Gx) (Y : Cx) (sc : Scope) (N : List Str) (as : Option Nat) (X : Cx) (a : Addr) (oe : Obj) (cls : Value) (d : Option Addr) (x : Exn) (c : Xe) : Prop where
  v : ∀ {e : PySem.Expr}, (chkX N as c).v sc e = true → PE Y e (tXE g.B a cls d x as c)
  a : ∀ {es : List PySem.Expr}, (chkX N as c).a sc es = true → PA Y es (tXA g.B a cls d x as c) ∧ es.all notStar = true
theorem Sx.env {c : Xe} (h : Sx g Y sc N as X a oe cls d x c) : Y.env = X.env ∧ Y.N = N ∧ Y.K = g.B.K ∧ Y.env.scope = sc := by
  obtain ⟨pn, rfl⟩ := h.y
  exact ⟨rfl, h.n, h.K, h.sc⟩
theorem snd_x : ∀ c : Xe, OkX g c → Sx g Y sc N as X a oe cls d x c → SndX g Y sc N as X a oe cls d x c
  | .con dd, _, sx => by
    refine ⟨fun {e} h => ?_, fun h => by cases h⟩
    cases e with
    | Constant cc j p =>
      obtain ⟨v, pe, r⟩ := con_pe (Y := Y) (j := j) (p := p) (show conIs dd cc = true from h)
      exact PE.imp pe fun σ H Q ⟨ρ, env, S, hs, s, rx, ha, gg⟩ => nowV s gg (r _ _ _)
    | _ => cases h
  | .var i, _, sx => by
    refine ⟨fun {e} h => ?_, fun h => by cases h⟩
    obtain ⟨_, e2, _, e4⟩ := sx.env
    cases e with
    | Name z p =>
      obtain ⟨h1, hh⟩ := band (show (decide (N[i]? = some z) && (visB sc z && !oddB z)) = true from h)
      obtain ⟨h2, h3⟩ := band hh
      obtain ⟨o1, o2, _⟩ := odd_of h3
      refine PE.imp (pe_var (i := i) (by rw [e2]; exact of_decide_eq_true h1) (by rw [e4]; exact vis_of h2) o1 o2) fun σ H Q ⟨ρ, env, S, hs, s, rx, ha, gg⟩ => ?_
      obtain ⟨dd, e, g1⟩ := go_opt (show Go g.B ρ H (M.opt ((env[i]?).bind id) S) (KV1 g.B Q) _ from gg)
      have e' : env[i]? = some (some dd) := by
        cases q : env[i]? with
        | none => rw [q] at e; cases e
        | some o =>
          rw [q] at e
          have : o = some dd := e
          rw [this]
      obtain ⟨v, h4, r⟩ := hs.2 i dd e'
      exact ⟨v, h4, nowV s g1 r⟩
    | _ => cases h
  | .fld i f, _, sx => by
    refine ⟨fun {e} h => ?_, fun h => by cases h⟩
    obtain ⟨e1, e2, e3, e4⟩ := sx.env
    cases e with
    | Attribute o n p =>
      cases o with
      | Name z q =>
        obtain ⟨h0, hh⟩ := band (show (decide (f = n) && (decide (as = some i) && (decide (N[i]? = some z) && (visB sc z && !oddB z)))) = true from h)
        obtain ⟨h1, hh⟩ := band hh
        obtain ⟨h2, hh⟩ := band hh
        obtain ⟨h3, h4⟩ := band hh
        obtain ⟨o1, o2, _⟩ := odd_of h4
        have ef : f = n := of_decide_eq_true h0
        subst ef
        have fn : PySem.W.findIn g.B.K (.ref (He.ga g.B.K x.cls)) f = some none := sx.fl f (by simp [flds])
        have pv : PE Y (.Name z q) (tVar i) := pe_var (i := i) (by rw [e2]; exact of_decide_eq_true h2) (by rw [e4]; exact vis_of h3) o1 o2
        obtain ⟨pn, rfl⟩ := sx.y
        refine PE.imp (pe_xf (C := He.ga g.B.K x.cls) (by rw [sx.K]; exact sx.xf) (by rw [sx.K]; exact fn) sx.zc sx.fi pv rfl) fun σ H Q ⟨ρ, env, S, hs, s, rx, ha, gg⟩ => ?_
        obtain ⟨dd, el, g1⟩ := go_opt (show Go g.B ρ H (M.opt (x.fs.lookup f) S) (KV1 g.B Q) _ from gg)
        obtain ⟨r1, da, fs, r2, r3, r4, r5⟩ := rx
        obtain ⟨v, lv, rv⟩ := r5 f dd el
        exact ⟨.ref a, ha i (of_decide_eq_true h1), rfl, r1, da, fs, v, r2, r3, lv, nowV s g1 rv⟩
      | _ => cases h
    | _ => cases h
  | .isx i c b, ok, sx => ok.elim
  | .ite c e1 e2, ok, sx => by
    have i0 := snd_x c ok.1 (sx.sub fun f hf => by simp [flds, hf])
    have i1 := snd_x e1 ok.2.1 (sx.sub fun f hf => by simp [flds, hf])
    have i2 := snd_x e2 ok.2.2 (sx.sub fun f hf => by simp [flds, hf])
    refine ⟨fun {e} h => ?_, fun h => by cases h⟩
    cases e with
    | IfExp t' a' b' p =>
      obtain ⟨h0, hh⟩ := band (show (byVal t' && ((chkX N as c).v sc t' && ((chkX N as e1).v sc a' && (chkX N as e2).v sc b'))) = true from h)
      obtain ⟨h1, hh⟩ := band hh
      obtain ⟨h2, h3⟩ := band hh
      refine PE.imp (pe_ifExp (pt_truth (i0.v h1) (true_byVal h0)) (i1.v h2) (i2.v h3)) fun σ H Q z => ?_
      have ha := z.choose_spec.choose_spec.choose_spec.2.2.2.1
      refine tX.bind (f := fun q env => M.bind (boolOf q) fun q => if q then (xeR e1).v x env else (xeR e2).v x env) z fun dd ρ1 env1 S1 H1 hs1 s1 rx1 g1 v r => ?_
      cases r with
      | bl q =>
        have g2 : Go g.B ρ1 H1 ((if q then (xeR e1).v x env1 else (xeR e2).v x env1) S1) (KV1 g.B Q) (fun _ _ _ _ => False) := g1
        cases q with
        | true =>
          refine ⟨true, rfl, ?_⟩
          show (if true = true then tXE g.B a cls d x as e1 σ H1 Q else tXE g.B a cls d x as e2 σ H1 Q)
          rw [if_pos rfl]
          exact ⟨ρ1, env1, S1, hs1, s1, rx1, ha, g2⟩
        | false =>
          refine ⟨false, rfl, ?_⟩
          show (if false = true then tXE g.B a cls d x as e1 σ H1 Q else tXE g.B a cls d x as e2 σ H1 Q)
          rw [if_neg Bool.false_ne_true]
          exact ⟨ρ1, env1, S1, hs1, s1, rx1, ha, g2⟩
      | _ => exact g1.elim
    | _ => cases h
  | .nil, _, sx => by
    refine ⟨fun h => (by cases h), fun {es} h => ?_⟩
    cases es with
    | nil => exact ⟨PA.imp pa_nil fun σ H Q ⟨ρ, env, S, hs, s, rx, ha, gg⟩ => Go.now s gg _ .nil, rfl⟩
    | cons _ _ => cases h
  | .cons e es, ok, sx => by
    have i1 := snd_x e ok.1 (sx.sub fun f hf => by simp [flds, hf])
    have i2 := snd_x es ok.2 (sx.sub fun f hf => by simp [flds, hf])
    refine ⟨fun h => (by cases h), fun {xs} h => ?_⟩
    cases xs with
    | nil => cases h
    | cons y ys =>
      obtain ⟨h0, hh⟩ := band (show (notStar y && ((chkX N as e).v sc y && (chkX N as es).a sc ys)) = true from h)
      obtain ⟨h1, h2⟩ := band hh
      obtain ⟨p2, q2⟩ := i2.a h2
      refine ⟨PA.imp (pa_cons (i1.v h1) p2 (star_cons h0)) fun σ H Q z => ?_, by rw [List.all_cons, h0, q2] <;> rfl⟩
      have ha := z.choose_spec.choose_spec.choose_spec.2.2.2.1
      refine tX.bind (f := fun dd env => M.bind ((xeR es).a x env) fun ds => M.pure (dd :: ds)) z fun dd ρ1 env1 S1 H1 hs1 s1 rx1 g1 v r => ?_
      exact ⟨ρ1, env1, S1, hs1, s1, rx1, ha, (Go.bindM g1).imp (fun ds ρ3 S3 H3 e3 s3 g3 vs rs => Go.now s3 g3 _ (.cons (r.mono e3) rs)) fun _ _ _ _ _ _ q => q⟩
  | .tup es, ok, sx => by
    have i1 := snd_x es ok (sx.sub fun f hf => by simpa [flds] using hf)
    refine ⟨fun {e} h => ?_, fun h => by cases h⟩
    cases e with
    | Tuple xs j p =>
      obtain ⟨pa, _⟩ := i1.a (show (chkX N as es).a sc xs = true from h)
      refine PE.imp (pe_tup pa) fun σ H Q z => ?_
      refine tX.bind (f := fun (ds : List Py.D) (env : Env) => (if fits ds.length then M.pure (D.tup ds) else M.fail : M Py.D)) z fun ds ρ1 env1 S1 H1 hs1 s1 rx1 g1 vs rl => ?_
      by_cases c : fits ds.length = true
      · rw [if_pos c] at g1
        exact ⟨by rw [← rl.len]; exact fits_le c, newV s1 g1 (newTup s1 rl)⟩
      · rw [if_neg c] at g1
        exact g1.elim
    | _ => cases h
  | .lst es, ok, sx => by
    have i1 := snd_x es ok (sx.sub fun f hf => by simpa [flds] using hf)
    refine ⟨fun {e} h => ?_, fun h => by cases h⟩
    cases e with
    | List xs p =>
      obtain ⟨pa, _⟩ := i1.a (show (chkX N as es).a sc xs = true from h)
      refine PE.imp (pe_lst pa) fun σ H Q z => ?_
      refine tX.bind (f := fun (ds : List Py.D) (env : Env) => (if fits ds.length then M.pure (D.lst ds) else M.fail : M Py.D)) z fun ds ρ1 env1 S1 H1 hs1 s1 rx1 g1 vs rl => ?_
      by_cases c : fits ds.length = true
      · rw [if_pos c] at g1
        exact ⟨by rw [← rl.len]; exact fits_le c, newV s1 g1 (newLst s1 rl)⟩
      · rw [if_neg c] at g1
        exact g1.elim
    | _ => cases h
end
end Py
-- PyW
namespace Py
open PySem PySem.Spec PyProof.Rows L2
variable {g : Gx} {k : Nat} {N : List Str} {ρ2 : Rh} {H2 : Hp}
/-! ### 33. try -/
theorem repS_off {o : Option Nat} {a : Addr} (h : RepS B ρ H env σ) : RepS B ρ H (offE o env) (asIn o a σ) := by
  cases o with
  | none => exact h
  | some i =>
    show RepS B ρ H (env.set i none) (σ.set i (some (.ref a)))
    refine ⟨by simp [h.1], fun j d q => ?_⟩
    by_cases e : j = i
    · subst e
      by_cases l : j < env.length
      · rw [List.getElem?_set_self l] at q; cases q
      · rw [List.getElem?_eq_none (by simpa using l)] at q; cases q
    · rw [List.getElem?_set_ne (Ne.symm e)] at q
      obtain ⟨v, e1, r⟩ := h.2 j d q
      exact ⟨v, by rw [List.getElem?_set_ne (Ne.symm e)]; exact e1, r⟩
theorem lookup_mem {α : Type} {n : Str} {b : α} : ∀ {l : List (Str × α)}, l.lookup n = some b → (n, b) ∈ l
  | [], h => by cases h
  | (m, c) :: l, h => by
    rw [List.lookup_cons] at h
    cases e : n == m with
    | true =>
      rw [e] at h
      cases h
      rw [eq_of_beq e]
      exact List.mem_cons_self
    | false =>
      rw [e] at h
      exact List.mem_cons_of_mem _ (lookup_mem h)
/-- a clause's suite -/
def suT (B : Bs) (h : Hd) (a : Addr) (cls : Value) (d : Option Addr) : TS := fun De σ H => ∃ x : Exn, (x.cls, true) ∈ h.tb ∧ tXE B a cls d x h.as h.e σ H De.rt
theorem hds_ok {W : WX} (cx : CxS g k X W) (hN : X.N = N) : ∀ (hs : List Hd) (es : List ExceptHandler), (∀ h ∈ hs, OkH g h) → chkHs N X.env.scope hs es = true →
    ∃ l, Cls1 X es l ∧ ∀ (De : Ends) (x : Exn) (ρ : Rh) (env : Env) (S : Store) (σ : L2.St) (H : Hp) (cls : Value) (dd : Option Addr), RepS g.B ρ H env σ → Sim g.B ρ S H → RepX g.B ρ H x cls dd → GoS g.B W De ρ H (hdl hs x env S) → wCl X.K W De.rt l cls dd σ H
  | [], [], _, _ => ⟨[], .nil, fun De x ρ env S σ H cls dd hs s rx gg => gg ρ H σ .refl s hs cls dd rx⟩
  | [], _ :: _, _, h => by cases h
  | _ :: _, [], _, h => by cases h
  | h :: hs, e :: es, ok, hc => by
    obtain ⟨c1, c2⟩ := band (show (chkH N X.env.scope h e && chkHs N X.env.scope hs es) = true from hc)
    obtain ⟨l, cl, hl⟩ := hds_ok cx hN hs es (fun q hq => ok q (List.mem_cons_of_mem _ hq)) c2
    obtain ⟨c, hcv, tb, okx, hx⟩ := ok h List.mem_cons_self
    have shape : ∃ x np n e' rp hp, e = .ExceptHandler (some (.Name x np)) n [.Return (some e') rp] hp ∧ (decide (h.c = x) && (nameOk X.env.scope x && ((match h.as, n with
        | some i, some y => decide (N[i]? = some y) && decide (X.env.scope.names.lookup y = some .local)
        | none, none => true
        | _, _ => false) && (chkX N h.as h.e).v X.env.scope e'))) = true := by
      unfold chkH at c1
      split at c1
      · exact ⟨_, _, _, _, _, _, rfl, c1⟩
      · cases c1
    obtain ⟨x, np, n, e', rp, hp, rfl, hh⟩ := shape
    obtain ⟨d1, hh⟩ := band hh
    obtain ⟨d2, hh⟩ := band hh
    obtain ⟨d3, d4⟩ := band hh
    have ex : h.c = x := of_decide_eq_true d1
    obtain ⟨hg, hd, hn⟩ := gl_of d2
    refine ⟨⟨c, h.as, suT g.B h⟩ :: l, .cons ⟨hg, hd, ?_⟩ ?_ (fun a oe cls d pn hz hf => ?_) cl, fun De y ρ env S σ H cls dd hs' s rx gg => ?_⟩
    · by_cases ho : h.own = true
      · rw [if_pos ho] at hcv
        exact .inl (by rw [cx.mg, ← ex]; exact hcv)
      · rw [if_neg ho] at hcv
        exact .inr ⟨by rw [cx.mg, ← ex]; exact hcv.1, by rw [← ex]; exact hcv.2, hn⟩
    · show NmOk X h.as n
      cases ha : h.as with
      | none => cases n with
        | none => exact True.intro
        | some n => rw [ha] at d3; cases d3
      | some i => cases n with
        | none => rw [ha] at d3; cases d3
        | some n =>
          rw [ha] at d3
          obtain ⟨q1, q2⟩ := band (show (decide (N[i]? = some n) && decide (X.env.scope.names.lookup n = some .local)) = true from d3)
          exact ⟨by rw [hN]; exact of_decide_eq_true q1, of_decide_eq_true q2⟩
    · refine ⟨fun pins s σ H De I ⟨y, mem, t⟩ => ?_⟩
      obtain ⟨xf, fl⟩ := hx _ mem rfl
      have sx : Sx g (X.suite a ((a, oe) :: pn)) X.env.scope N h.as X a oe cls d y h.e := ⟨⟨pn, rfl⟩, cx.K, cx.mg, rfl, hN, hz, hf, xf, fl⟩
      exact (pss_one (ps_ret ((snd_x h.e okx sx).v d4))).run pins s σ H De I t
    · unfold hdl at gg
      cases ht : h.tb.lookup y.cls with
      | none => rw [ht] at gg; exact gg.elim
      | some b =>
        have mem := lookup_mem ht
        have em : PySem.W.exmOne X.K cls c = some b := by rw [cx.K, rx.1]; exact tb _ mem
        refine ⟨b, em, fun hb a na => ?_, fun hb => ?_⟩
        · subst hb
          rw [ht] at gg
          have gg : GoS g.B W De ρ H (if onE h.as env then (match (xeR h.e).v y (offE h.as env) S with
            | .ok d S' => .ok (.rt d) (offE h.as env) S'
            | _ => .stuck) else .stuck) := gg
          by_cases on : onE h.as env = true
          · rw [if_pos on] at gg
            refine ⟨y, mem, ρ, offE h.as env, S, repS_off hs', s, rx, fun i hi => ?_, ?_⟩
            · show (asIn h.as a σ)[i]? = _
              have hi : h.as = some i := hi
              rw [hi] at on ⊢
              have on : i < env.length := of_decide_eq_true on
              show (σ.set i (some (.ref a)))[i]? = _
              rw [List.getElem?_set_self (by rw [hs'.1]; exact on)]
            · cases ev : (xeR h.e).v y (offE h.as env) S with
              | stuck => rw [ev] at gg; exact gg.elim
              | exc z S1 => rw [ev] at gg; exact gg.elim
              | ok r S1 =>
                rw [ev] at gg
                exact fun ρ' H' e1 s1 v rv => gg ρ' H' (asIn h.as a σ) e1 s1 ((repS_off hs').mono e1) v rv
          · rw [if_neg on] at gg
            exact gg.elim
        · subst hb
          rw [ht] at gg
          exact hl De y ρ env S σ H cls dd hs' s rx gg
theorem sm_try (b : Sm) (hs : List Hd) (ok : ∀ h ∈ hs, OkH g h) (i1 : SndS g k N b) : SndS g k N (.try b hs) := by
  refine SndS.sole (f := _) rfl fun {X W st} cx n h => ?_
  cases st with
  | Try b' hs' oe fb p =>
    cases hs' with
    | nil => cases h
    | cons h0 hs' =>
      cases oe with
      | cons _ _ => cases h
      | nil =>
        cases fb with
        | cons _ _ => cases h
        | nil =>
          obtain ⟨h1, h2⟩ := band (show ((chkS N b).ss X.env.scope b' && chkHs N X.env.scope hs (h0 :: hs')) = true from h)
          obtain ⟨l, cl, hl⟩ := hds_ok cx n hs (h0 :: hs') ok h2
          refine PS.imp (ps_tryG (tb := fun W' => tS g.B W' (exS b)) cx.nd cx.stk cx.frm cx.tk (fun W' pn xe tk' ps' => i1.ss (X := X.tr pn xe) ⟨⟨cx.prog, cx.w, cx.K, cx.mg, cx.base, cx.calm, cx.nd, cx.room, tk'⟩, ps', cx.stk, cx.frm, cx.fna, cx.kind⟩ n h1) cl) fun De σ H ⟨ρ, env, S, hs1, s, gg⟩ => ?_
          refine ⟨ρ, env, S, hs1, s, ?_⟩
          have gg : GoS g.B W De ρ H (match exS b env S with
            | .exc x env' S' => hdl hs x env' S'
            | r => r) := gg
          cases e : exS b env S with
          | ok f env1 S1 => rw [e] at gg; exact gg
          | stuck => rw [e] at gg; exact gg
          | exc x env1 S1 =>
            rw [e] at gg
            exact fun ρ' H' σ' e1 s1 h1 cls dd rx => hl De x ρ' env1 S1 σ' H' cls dd h1 s1 rx (GoS.later e1 gg)
  | _ => cases h
theorem lcs_all (G : GOk g) (c : E) (h : OkE g k c) : Lcs g k N c := by
  cases c with
  | lc m tg it c e => exact ⟨snd_all G it h.1, snd_all G c h.2.1, snd_all G e h.2.2⟩
  | _ => exact True.intro
/-- every statement that is checked and leans on what holds -/
theorem sm_all (G : GOk g) : ∀ m : Sm, OkS g k m → SndS g k N m
  | .nil, _ => sm_nil
  | .cons a b, h => sm_cons a b (sm_all G a h.1) (sm_all G b h.2)
  | .doc, _ => sm_doc
  | .set tg e, h => sm_set tg e (snd_all G e h) (lcs_all G e h)
  | .par is es, h => sm_par is es (snd_all G es h)
  | .put o i e, h => sm_put o i e (snd_all G o h.1) (snd_all G i h.2.1) (snd_all G e h.2.2)
  | .sat o f e, h => sm_sat o f e G h.1 (snd_all G o h.2.1) (snd_all G e h.2.2)
  | .ex e, h => sm_ex e (snd_all G e h)
  | .ite c a b, h => sm_ite c a b (snd_all G c h.1) (sm_all G a h.2.1) (sm_all G b h.2.2)
  | .for tg it b, h => sm_for tg it b (snd_all G it h.1) (sm_all G b h.2)
  | .whl c b, h => sm_whl c b (snd_all G c h.1) (sm_all G b h.2)
  | .ret e, h => sm_ret e (snd_all G e h)
  | .retn, _ => sm_retn
  | .brk, _ => sm_brk
  | .cnt, _ => sm_cnt
  | .pss, _ => sm_pss
  | .rs c f es, h => sm_rs c f es h.1 (snd_all G es h.2)
  | .try b hs, h => sm_try b hs h.2 (sm_all G b h.1)
end Py
-- PyX
namespace Py
open PySem PySem.Spec PyProof.Rows L2
variable {g : Gx} {k : Nat} {N : List Str} {ρ2 : Rh} {H2 : Hp}
def env0 (n : Nat) (ds : List D) : Env := ds.map some ++ List.replicate (n - ds.length) none
/-- a def by its body: n slots -/
noncomputable def runF (z : Bool) (n : Nat) (b : Sm) : Sem := fun ds S => match exS b (env0 n ds) S with
  | .ok (.rt d) _ S' => retF z S d S'
  | .ok .nx _ S' => retF z S .non S'
  | .exc x _ S' => excF z S x S'
  | _ => .stuck
theorem repS_start {ds : List D} {vs : List V} (r : RepL B ρ H ds vs) : RepS B ρ H (env0 N.length ds) (L2.start N vs) := by
  unfold env0 L2.start
  refine ⟨by simp [r.len], fun i d h => ?_⟩
  by_cases l : i < ds.length
  · rw [List.getElem?_append_left (by simpa using l), List.getElem?_map] at h
    cases e : ds[i]? with
    | none => rw [e] at h; cases h
    | some d0 =>
      rw [e] at h
      have h : some (some d0) = some (some d) := h
      cases h
      obtain ⟨v, e2, rv⟩ := r.get e
      refine ⟨v, ?_, rv⟩
      rw [List.getElem?_append_left (by rw [List.length_map, ← r.len]; exact l), List.getElem?_map, e2] <;> rfl
  · rw [List.getElem?_append_right (by simpa using l), List.getElem?_replicate] at h
    split at h <;> cases h
/-- a def's promise, by its body -/
theorem fn_ok (G : GOk g) {x qual : Str} {params : Arguments} {body : List Stmt} {scope : Scope} {dvs : List V} {kws : List (Str × V)} {fd : FuncData} {ps : List Str} {f : Addr} {z : Bool} {b : Sm} (F : FunD g.B.K x qual params body scope dvs kws f fd) (sc : C8.scC N ps scope = true)
    (h : (chkS N b).ss scope body = true) (ok : OkS g k b) : FnOk g.P g.w g.B.K g.mg g.base (L2.CX g.P g.w) (k + 1) f fd ps (spOf g.B (runF z N.length b) ps.length) := by
  have fs := C8.fnScope_by sc
  refine F.ok fs (fun vs H Q E ⟨ρ, S, ds, s, r, l, gg⟩ => l) fun cdv A outer s H vs Q E room ⟨ρ, S, ds, sm, r, l, gg⟩ => ?_
  refine ⟨tS g.B (fun cls d _ H => E cls d H) (exS b), ?_, ?_⟩
  · refine (sm_all G b ok).ss (W := fun cls d _ H => E cls d H) ⟨⟨rfl, rfl, rfl, rfl, rfl, rfl, fs.nd, room, takes_of rfl rfl rfl rfl⟩, passes_of rfl, rfl, rfl, fun _ => rfl, fs.kind⟩ rfl h
  · refine ⟨ρ, env0 N.length ds, S, repS_start r, sm, ?_⟩
    have gg : Go g.B ρ H (match exS b (env0 N.length ds) S with
      | .ok (.rt d) _ S' => retF z S d S'
      | .ok .nx _ S' => retF z S .non S'
      | .exc x _ S' => excF z S x S'
      | _ => .stuck) (KV1 g.B Q) (fun x ρ' _ H' => ∀ cls dd, RepX g.B ρ' H' x cls dd → E cls dd H') := gg
    cases e : exS b (env0 N.length ds) S with
    | stuck => rw [e] at gg; exact gg.elim
    | exc x env1 S1 =>
      rw [e] at gg
      exact fun ρ' H' σ' e1 s1 _ cls dd rx => exc_ok sm e1 s1 rx gg
    | ok fl env1 S1 =>
      rw [e] at gg
      cases fl with
      | rt d => exact fun ρ' H' σ' e1 s1 _ v rv => ret_ok sm e1 s1 rv gg
      | nx => exact fun ρ' H' σ' e1 s1 _ => ret_ok sm e1 s1 .non gg
      | bk => exact gg.elim
      | ct => exact gg.elim
end Py
-- PyY
namespace Py
open PySem PySem.Spec PyProof.Rows L2
variable {g : Gx} {k : Nat} {N : List Str} {ρ2 : Rh} {H2 : Hp}
/-! ### 35. built-in functions -/
/-- the items of a list -/
def lstOf (d : D) : M (List D) := match d with
  | .tup _ => M.fail
  | d => seqOf d
def pLen : Sem := fun ds => match ds with
  | [.str z] => if fits z.length then M.pure (.int z.length) else M.fail
  | [.cell n] => fun S => match S[n]? with
    | some (.lst xs) => .ok (.int xs.length) S
    | some (.dic false kvs) => .ok (.int kvs.length) S
    | _ => .stuck
  | [d] => M.bind (seqOf d) fun xs => M.pure (.int xs.length)
  | _ => M.fail
def pAbs : Sem := fun ds => match ds with
  | [.int i] => M.pure (.int (if i < 0 then -i else i))
  | _ => M.fail
def pInt : Sem := fun ds => match ds with
  | [.int i] => M.pure (.int i)
  | _ => M.fail
def pMax2 : Sem := fun ds => match ds with
  | [.int i, .int j] => M.pure (.int (if j > i then j else i))
  | _ => M.fail
def pMin2 : Sem := fun ds => match ds with
  | [.int i, .int j] => M.pure (.int (if j < i then j else i))
  | _ => M.fail
def pSum : Sem := fun ds => match ds with
  | [d] => M.bind (lstOf d) fun xs => M.opt ((intsOf xs).map fun ns => .int ns.sum)
  | _ => M.fail
def pAll : Sem := fun ds => match ds with
  | [d] => M.bind (lstOf d) fun xs => M.opt ((blsOf xs).map fun bs => .bl (bs.all id))
  | _ => M.fail
def pAny : Sem := fun ds => match ds with
  | [d] => M.bind (lstOf d) fun xs => M.opt ((blsOf xs).map fun bs => .bl (bs.any id))
  | _ => M.fail
/-- list(x): a mutable object, or plain -/
def pList (m : Bool) : Sem := fun ds => match ds with
  | [d] => M.bind (seqOf d) fun xs => mkL m xs
  | _ => M.fail
def pTuple : Sem := fun ds => match ds with
  | [.tup xs] => M.pure (.tup xs)
  | [d] => M.bind (lstOf d) fun xs => M.pure (.tup xs)
  | _ => M.fail
/-- min(xs): the item that is the least, where just one thing can be it -/
noncomputable def pMin : Sem := fun ds => match ds with
  | [d] => M.bind (lstOf d) fun xs S => match toPs S 1000 xs with
    | some (p :: ps) => @dite _ ((PySem.W.AlikeAll (p :: ps) ∧ PyData.depthAll (p :: ps) ≤ 100) ∧ ∃ e, ∀ z ∈ xs.zip (p :: ps), z.2 = PySem.W.minD p ps → z.1 = e) (Classical.propDecidable _) (fun h => .ok h.2.choose S) fun _ => .stuck
    | _ => .stuck
  | _ => M.fail
/-- sorted(xs) of texts (or of anything else that is alike) -/
noncomputable def pSorted : Sem := fun ds => match ds with
  | [d] => M.bind (lstOf d) fun xs S => match toPs S 1000 xs with
    | some ps => @ite _ (PySem.W.AllAlike ps ∧ PySem.W.Sortable ps ∧ PyData.depthAll ps ≤ 100) (Classical.propDecidable _) (.ok (.lst (((xs.zip ps).mergeSort (PySem.W.dataLe false fun z => z.2)).map (·.1))) S) .stuck
    | none => .stuck
  | _ => M.fail
theorem rl_nil {vs : List V} (r : RepL B ρ H [] vs) : vs = [] := by cases r; rfl
theorem rl_one {d : D} {vs : List V} (r : RepL B ρ H [d] vs) : ∃ v, vs = [v] ∧ Rep B ρ H d v := by
  cases r with
  | cons a t => cases t; exact ⟨_, rfl, a⟩
theorem rl_two {d e : D} {vs : List V} (r : RepL B ρ H [d, e] vs) : ∃ v u, vs = [v, u] ∧ Rep B ρ H d v ∧ Rep B ρ H e u := by
  cases r with
  | cons a t =>
    obtain ⟨u, rfl, b⟩ := rl_one t
    exact ⟨_, _, rfl, a, b⟩
theorem lst_go {α : Type} {f : List D → M α} {kk : α → Rh → Store → Hp → Prop} {kx : Exn → Rh → Store → Hp → Prop} {K : PySem.W.Frag} {d : D} {v : V} (s : Sim B ρ S H) (r : Rep B ρ H d v) (gg : Go B ρ H (M.bind (lstOf d) f S) kk kx) :
    ∃ a vs xs, v = .ref a ∧ SqL K H a vs ∧ RepL B ρ H xs vs ∧ Go B ρ H (f xs S) kk kx := by
  by_cases ht : ∃ ds, d = .tup ds
  · obtain ⟨ds, rfl⟩ := ht
    exact gg.elim
  · have e0 : lstOf d = seqOf d := by
      cases d with
      | tup ds => exact absurd ⟨ds, rfl⟩ ht
      | _ => rfl
    rw [e0] at gg
    have g1 := Go.bindM gg
    cases e : seqOf d S with
    | stuck => rw [e] at g1; exact g1.elim
    | exc x S2 => exact (seq_noexc e).elim
    | ok xs S2 =>
      rw [e] at g1
      obtain ⟨rfl, a, vs, rfl, h2, rl⟩ := seq_lst s r e fun ds z => ht ⟨ds, z⟩
      exact ⟨a, vs, xs, rfl, SqL.of2 h2, rl, Go.now s g1⟩
theorem seq_go {α : Type} {f : List D → M α} {kk : α → Rh → Store → Hp → Prop} {kx : Exn → Rh → Store → Hp → Prop} {K : PySem.W.Frag} {d : D} {v : V} (s : Sim B ρ S H) (r : Rep B ρ H d v) (gg : Go B ρ H (M.bind (seqOf d) f S) kk kx) :
    ∃ a vs xs, v = .ref a ∧ (SqL K H a vs ∨ SqT K H a vs) ∧ RepL B ρ H xs vs ∧ Go B ρ H (f xs S) kk kx := by
  by_cases ht : ∃ ds, d = .tup ds
  · obtain ⟨ds, rfl⟩ := ht
    obtain ⟨a, vs, rfl, n, q, rl⟩ := rep_tup r
    exact ⟨a, vs, ds, rfl, .inr (SqT.of q), rl, Go.now s (Go.bindM gg)⟩
  · have e0 : lstOf d = seqOf d := by
      cases d with
      | tup ds => exact absurd ⟨ds, rfl⟩ ht
      | _ => rfl
    rw [← e0] at gg
    obtain ⟨a, vs, xs, e, h, rl, g2⟩ := lst_go (K := K) s r gg
    exact ⟨a, vs, xs, e, .inl h, rl, g2⟩
theorem ints_v : ∀ {xs : List D} {ns : List Int} {vs : List V}, intsOf xs = some ns → RepL B ρ H xs vs → vs = ns.map V.int
  | [], ns, _, e, r => by cases e; cases r; rfl
  | d :: xs, ns, _, e, r => by
    cases r with
    | cons a t =>
      cases d with
      | int i =>
        obtain ⟨ms, e1, rfl⟩ := Option.map_eq_some_iff.mp (show (intsOf xs).map (i :: ·) = some ns from e)
        cases a
        rw [ints_v e1 t] <;> rfl
      | _ => cases e
theorem bls_v : ∀ {xs : List D} {ns : List Bool} {vs : List V}, blsOf xs = some ns → RepL B ρ H xs vs → vs = ns.map V.bl
  | [], ns, _, e, r => by cases e; cases r; rfl
  | d :: xs, ns, _, e, r => by
    cases r with
    | cons a t =>
      cases d with
      | bl i =>
        obtain ⟨ms, e1, rfl⟩ := Option.map_eq_some_iff.mp (show (blsOf xs).map (i :: ·) = some ns from e)
        cases a
        rw [bls_v e1 t] <;> rfl
      | _ => cases e
theorem prim_len : PrimSem g "len" pLen := by
  refine ⟨by decide +kernel, fun k X W cx => ⟨_, _, by decide +kernel, .inl ⟨"len", rfl⟩, CallR.or call_len call_lenD, fun ρ S H ds vs Q kx s rl gg => ?_⟩⟩
  match ds, rl, gg with
  | [], _, gg => exact gg.elim
  | [d], rl, gg =>
    obtain ⟨v, rfl, r⟩ := rl_one rl
    by_cases hz : ∃ z, d = .str z
    · obtain ⟨z, rfl⟩ := hz
      cases r
      have gg : Go g.B ρ H ((if fits z.length then M.pure (.int z.length) else M.fail : M Py.D) S) (KV1 g.B Q) kx := gg
      by_cases c : fits z.length = true
      · rw [if_pos c] at gg
        exact .inl ⟨_, z.length, rfl, ⟨fits_le c, rfl⟩, nowV s gg (.int _)⟩
      · rw [if_neg c] at gg
        exact gg.elim
    · by_cases hc : ∃ n, d = .cell n
      · obtain ⟨n, rfl⟩ := hc
        cases r with
        | @cell _ a ha =>
          obtain ⟨cv, e, cr⟩ := s.get ha
          have gg : Go g.B ρ H (match S[n]? with
            | some (.lst xs) => .ok (.int xs.length) S
            | some (.dic false kvs) => .ok (.int kvs.length) S
            | _ => .stuck : Out Py.D) (KV1 g.B Q) kx := gg
          rw [e] at gg
          cases cv with
          | lst xs =>
            obtain ⟨ws, q, rl⟩ := cell_lst cr
            refine .inl ⟨_, ws.length, rfl, .inl ⟨ws, SqL.of q, rfl⟩, ?_⟩
            rw [← rl.len]
            exact nowV s gg (.int _)
          | ins _ _ => exact gg.elim
          | dic lk kvs =>
            cases lk with
            | true => exact gg.elim
            | false =>
              cases cr with
              | @dic _ _ kws q kr =>
                refine .inr ⟨a, kws, rfl, q, ?_⟩
                rw [← kr.length]
                exact nowV s gg (.int _)
      · have gg : Go g.B ρ H (M.bind (seqOf d) (fun xs => M.pure (.int xs.length)) S) (KV1 g.B Q) kx := by
          cases d with
          | str z => exact absurd ⟨z, rfl⟩ hz
          | cell n => exact absurd ⟨n, rfl⟩ hc
          | _ => exact gg
        obtain ⟨a, ws, xs, rfl, h, rl, g2⟩ := seq_go (K := X.K) s r gg
        refine .inl ⟨_, ws.length, rfl, ?_, ?_⟩
        · rcases h with h | h
          · exact .inl ⟨ws, h, rfl⟩
          · exact .inr ⟨ws, h, rfl⟩
        · rw [← rl.len]
          exact nowV s g2 (.int _)
  | d :: _ :: _, _, gg => cases d <;> exact gg.elim
/-- one argument only -/
theorem one_of {f : D → M D} {F : Sem} {ds : List D} {vs : List V} {Q : VK} {kx : Exn → Rh → Store → Hp → Prop} (hF : F = fun ds => match ds with
    | [d] => f d
    | _ => M.fail) (rl : RepL B ρ H ds vs) (gg : Go B ρ H (F ds S) (KV1 B Q) kx) : ∃ d v, ds = [d] ∧ vs = [v] ∧ Rep B ρ H d v ∧ Go B ρ H (f d S) (KV1 B Q) kx := by
  subst hF
  match ds, rl, gg with
  | [], _, gg => exact gg.elim
  | [d], rl, gg =>
    obtain ⟨v, rfl, r⟩ := rl_one rl
    exact ⟨d, v, rfl, rfl, r, gg⟩
  | _ :: _ :: _, _, gg => exact gg.elim
theorem prim_sum : PrimSem g "sum" pSum := by
  refine ⟨by decide +kernel, fun k X W cx => ⟨_, _, by decide +kernel, .inl ⟨"sum", rfl⟩, cr_sum cx.calm, fun ρ S H ds vs Q kx s rl gg => ?_⟩⟩
  obtain ⟨d, v, rfl, rfl, r, gg⟩ := one_of (F := pSum) rfl rl gg
  obtain ⟨a, ws, xs, rfl, h, rl, g2⟩ := lst_go (K := X.K) s r gg
  obtain ⟨e, eo, g3⟩ := go_opt g2
  obtain ⟨ns, ei, rfl⟩ := Option.map_eq_some_iff.mp eo
  exact ⟨a, ns, rfl, by rw [← ints_v ei rl]; exact h, nowV s g3 (.int _)⟩
theorem prim_all : PrimSem g "all" pAll := by
  refine ⟨by decide +kernel, fun k X W cx => ⟨_, _, by decide +kernel, .inl ⟨"all", rfl⟩, cr_all cx.calm, fun ρ S H ds vs Q kx s rl gg => ?_⟩⟩
  obtain ⟨d, v, rfl, rfl, r, gg⟩ := one_of (F := pAll) rfl rl gg
  obtain ⟨a, ws, xs, rfl, h, rl, g2⟩ := lst_go (K := X.K) s r gg
  obtain ⟨e, eo, g3⟩ := go_opt g2
  obtain ⟨ns, ei, rfl⟩ := Option.map_eq_some_iff.mp eo
  exact ⟨a, ns, rfl, by rw [← bls_v ei rl]; exact h, nowV s g3 (.bl _)⟩
theorem prim_any : PrimSem g "any" pAny := by
  refine ⟨by decide +kernel, fun k X W cx => ⟨_, _, by decide +kernel, .inl ⟨"any", rfl⟩, cr_any cx.calm, fun ρ S H ds vs Q kx s rl gg => ?_⟩⟩
  obtain ⟨d, v, rfl, rfl, r, gg⟩ := one_of (F := pAny) rfl rl gg
  obtain ⟨a, ws, xs, rfl, h, rl, g2⟩ := lst_go (K := X.K) s r gg
  obtain ⟨e, eo, g3⟩ := go_opt g2
  obtain ⟨ns, ei, rfl⟩ := Option.map_eq_some_iff.mp eo
  exact ⟨a, ns, rfl, by rw [← bls_v ei rl]; exact h, nowV s g3 (.bl _)⟩
theorem int1_of {f : Int → M D} {F : Sem} {ds : List D} {vs : List V} {Q : VK} {kx : Exn → Rh → Store → Hp → Prop} (hF : F = fun ds => match ds with
    | [.int i] => f i
    | _ => M.fail) (rl : RepL B ρ H ds vs) (gg : Go B ρ H (F ds S) (KV1 B Q) kx) : ∃ i, vs = [.int i] ∧ Go B ρ H (f i S) (KV1 B Q) kx := by
  subst hF
  match ds, rl, gg with
  | [], _, gg => exact gg.elim
  | [d], rl, gg =>
    obtain ⟨v, rfl, r⟩ := rl_one rl
    cases r with
    | int i => exact ⟨i, rfl, gg⟩
    | _ => exact gg.elim
  | d :: _ :: _, _, gg => cases d <;> exact gg.elim
theorem int2_of {f : Int → Int → M D} {F : Sem} {ds : List D} {vs : List V} {Q : VK} {kx : Exn → Rh → Store → Hp → Prop} (hF : F = fun ds => match ds with
    | [.int i, .int j] => f i j
    | _ => M.fail) (rl : RepL B ρ H ds vs) (gg : Go B ρ H (F ds S) (KV1 B Q) kx) : ∃ i j, vs = [.int i, .int j] ∧ Go B ρ H (f i j S) (KV1 B Q) kx := by
  subst hF
  match ds, rl, gg with
  | [], _, gg => exact gg.elim
  | [d], rl, gg => cases d <;> exact gg.elim
  | [d, e], rl, gg =>
    obtain ⟨v, u, rfl, r1, r2⟩ := rl_two rl
    cases r1 with
    | int i => cases r2 with
      | int j => exact ⟨i, j, rfl, gg⟩
      | _ => exact gg.elim
    | _ => exact gg.elim
  | d :: e :: _ :: _, _, gg => cases d <;> first | exact gg.elim | (cases e <;> exact gg.elim)
theorem prim_abs : PrimSem g "abs" pAbs := by
  refine ⟨by decide +kernel, fun k X W cx => ⟨_, _, by decide +kernel, .inl ⟨"abs", rfl⟩, call_abs, fun ρ S H ds vs Q kx s rl gg => ?_⟩⟩
  obtain ⟨i, rfl, gg⟩ := int1_of (F := pAbs) rfl rl gg
  exact ⟨i, rfl, nowV s gg (.int _)⟩
theorem prim_int : PrimSem g "int" pInt := by
  refine ⟨by decide +kernel, fun k X W cx => ⟨_, _, boot_int, .inr ⟨"int", rfl⟩, call_int1, fun ρ S H ds vs Q kx s rl gg => ?_⟩⟩
  obtain ⟨i, rfl, gg⟩ := int1_of (F := pInt) rfl rl gg
  exact .inl ⟨i, rfl, nowV s gg (.int _)⟩
theorem prim_max2 : PrimSem g "max" pMax2 := by
  refine ⟨by decide +kernel, fun k X W cx => ⟨_, _, by decide +kernel, .inl ⟨"max", rfl⟩, call_max2 cx.calm, fun ρ S H ds vs Q kx s rl gg => ?_⟩⟩
  obtain ⟨i, j, rfl, gg⟩ := int2_of (F := pMax2) rfl rl gg
  exact ⟨i, j, rfl, nowV s gg (.int _)⟩
theorem prim_min2 : PrimSem g "min" pMin2 := by
  refine ⟨by decide +kernel, fun k X W cx => ⟨_, _, by decide +kernel, .inl ⟨"min", rfl⟩, call_min2 cx.calm, fun ρ S H ds vs Q kx s rl gg => ?_⟩⟩
  obtain ⟨i, j, rfl, gg⟩ := int2_of (F := pMin2) rfl rl gg
  exact ⟨i, j, rfl, nowV s gg (.int _)⟩
theorem prim_list (m : Bool) : PrimSem g "list" (pList m) := by
  refine ⟨by decide +kernel, fun k X W cx => ⟨_, _, boot_list, .inr ⟨"list", rfl⟩, call_list_of, fun ρ S H ds vs Q kx s rl gg => ?_⟩⟩
  obtain ⟨d, v, rfl, rfl, r, gg⟩ := one_of (F := pList m) rfl rl gg
  obtain ⟨a, ws, xs, rfl, h, rl, g2⟩ := seq_go (K := X.K) s r gg
  exact ⟨a, ws, rfl, h, newMk s rl g2⟩
theorem prim_tuple : PrimSem g "tuple" pTuple := by
  refine ⟨by decide +kernel, fun k X W cx => ⟨_, _, boot_tuple, .inr ⟨"tuple", rfl⟩, call_tuple_of, fun ρ S H ds vs Q kx s rl gg => ?_⟩⟩
  match ds, rl, gg with
  | [], _, gg => exact gg.elim
  | [d], rl, gg =>
    obtain ⟨v, rfl, r⟩ := rl_one rl
    by_cases ht : ∃ xs, d = .tup xs
    · obtain ⟨xs, rfl⟩ := ht
      obtain ⟨a, ws, rfl, n, q, rl⟩ := rep_tup r
      exact ⟨a, ws, rfl, .inr ⟨SqT.of q, nowV s gg r⟩⟩
    · have gg : Go g.B ρ H (M.bind (lstOf d) (fun xs => M.pure (.tup xs)) S) (KV1 g.B Q) kx := by
        cases d with
        | tup xs => exact absurd ⟨xs, rfl⟩ ht
        | _ => exact gg
      obtain ⟨a, ws, xs, rfl, h, rl, g2⟩ := lst_go (K := X.K) s r gg
      exact ⟨a, ws, rfl, .inl ⟨h, newV s g2 (newTup s rl)⟩⟩
  | d :: _ :: _, _, gg => cases d <;> exact gg.elim
/-! ### 36. the least -/
mutual
theorem reads_one {h : Heap} : ∀ (p q : PyData) (v : Value) (as bs : List Addr), PySem.W.alike p q = true → Reads h v p as → Reads h v q bs → p = q
  | .none, _, _, _, _, _, a, b => by cases a; cases b; rfl
  | .bool _, _, _, _, _, _, a, b => by cases a; cases b; rfl
  | .int _, _, _, _, _, _, a, b => by cases a; cases b; rfl
  | .str _, _, _, _, _, _, a, b => by cases a; cases b; rfl
  | .list xs, q, _, _, _, al, a, b => by
    cases q with
    | list ys =>
      cases a with
      | list h1 h2 h3 h4 =>
        cases b with
        | list k1 k2 k3 k4 =>
          rw [h1] at k1
          cases k1
          rw [h3] at k3
          cases k3
          rw [reads_oneL xs ys _ _ _ (by simpa only [PySem.W.alike] using al) h4 k4]
    | _ => simp only [PySem.W.alike] at al; cases al
  | .tuple xs, q, _, _, _, al, a, b => by
    cases q with
    | tuple ys =>
      cases a with
      | tuple h1 h2 h3 h4 =>
        cases b with
        | tuple k1 k2 k3 k4 =>
          rw [h1] at k1
          cases k1
          rw [h3] at k3
          cases k3
          rw [reads_oneL xs ys _ _ _ (by simpa only [PySem.W.alike] using al) h4 k4]
    | _ => simp only [PySem.W.alike] at al; cases al
  | .dict _, q, _, _, _, al, _, _ => by cases q <;> (simp only [PySem.W.alike] at al; cases al)
theorem reads_oneL {h : Heap} : ∀ (ps qs : List PyData) (vs : List Value) (as bs : List Addr), PySem.W.alikeAll ps qs = true → ReadsAll h vs ps as → ReadsAll h vs qs bs → ps = qs
  | [], _, _, _, _, _, a, b => by cases a; cases b; rfl
  | p :: ps, qs, _, _, _, al, a, b => by
    cases a with
    | cons a1 a2 =>
      cases b with
      | cons b1 b2 =>
        rw [PySem.W.alikeAll] at al
        obtain ⟨al1, al2⟩ := band al
        rw [reads_one p _ _ _ _ al1 a1 b1, reads_oneL ps _ _ _ _ al2 a2 b2]
end
end Py
-- PyZ
namespace Py
open PySem PySem.Spec PyProof.Rows L2
variable {g : Gx} {k : Nat} {N : List Str} {ρ2 : Rh} {H2 : Hp}
theorem depth_mem : ∀ {ps : List PyData} {p : PyData}, p ∈ ps → p.depth ≤ PyData.depthAll ps
  | q :: ps, p, h => by
    rw [PyData.depthAll]
    rcases List.mem_cons.mp h with e | h
    · subst e; omega
    · have := depth_mem h
      omega
theorem minD_mem (p : PyData) : ∀ ps : List PyData, PySem.W.minD p ps ∈ p :: ps := fun ps => by
  unfold PySem.W.minD
  induction ps generalizing p with
  | nil => exact List.mem_cons_self
  | cons q ps ih =>
    rw [List.foldl_cons]
    by_cases c : PySem.W.dataLt q p = true
    · rw [if_pos c]
      exact List.mem_cons_of_mem _ (ih q)
    · rw [if_neg c]
      rcases List.mem_cons.mp (ih p) with e | e
      · rw [e]; exact List.mem_cons_self
      · exact List.mem_cons_of_mem _ (List.mem_cons_of_mem _ e)
theorem reads_at {h : Heap} : ∀ {vs : List Value} {ps : List PyData} {as : List Addr} {i : Nat} {v : Value}, ReadsAll h vs ps as → vs[i]? = some v → ∃ p bs, ps[i]? = some p ∧ Reads h v p bs
  | _, _, _, i, v, .nil, e => by cases e
  | _, _, _, 0, v, .cons a _, e => by
    have e := Option.some.inj e
    subst e
    exact ⟨_, _, rfl, a⟩
  | _, _, _, i + 1, v, .cons _ t, e => reads_at (i := i) t e
theorem vals_at : ∀ {xs : List V} {us : List Value} {i : Nat} {u : Value}, Vals xs us → us[i]? = some u → ∃ x, xs[i]? = some x ∧ RelV x u
  | _, _, i, u, .nil, e => by cases e
  | _, _, 0, u, .cons r _, e => by
    have e := Option.some.inj e
    subst e
    exact ⟨_, rfl, r⟩
  | _, _, i + 1, u, .cons _ t, e => vals_at (i := i) t e
def rMinD (K : PySem.W.Frag) : List V → Hp → VK → Prop := fun vs H Q => ∃ (a : Addr) (ws : List V) (p : PyData) (ps : List PyData), vs = [V.ref a] ∧ SqL K H a ws ∧ DpAll K H ws (p :: ps) ∧ PySem.W.AlikeAll (p :: ps) ∧ PyData.depthAll (p :: ps) ≤ 100 ∧
  ∀ (i : Nat) (w : V), ws[i]? = some w → (p :: ps)[i]? = some (PySem.W.minD p ps) → Q w H
theorem cr_minD {W : WX} (cx : Ctx g k X W) : CallR X (.builtin "min") (rMinD X.K) := by
  intro pins s σ H vs us Q I r h
  obtain ⟨a, ws, p, ps, rfl, hs, hd, al, dp, q⟩ := h
  obtain ⟨its, rv, hl, _⟩ := I.list hs
  obtain ⟨u, rfl, ru⟩ := r.one
  cases ru
  obtain ⟨as, ra⟩ := Dp.readsAll I _ _ its hd rv
  have room := cx.room.un
  have room : X.A.units + 1 + PyData.depthAll (p :: ps) < cLine := by omega
  refine PySem.W.min_list_data (vs := its.toArray) (I.ok.hd cx.calm) hl.isList ra al room fun i v h' tk bs hv rd hk => ?_
  have hv : its[i]? = some v := by simpa using hv
  obtain ⟨q1, bs1, e1, rd1⟩ := reads_at ra hv
  obtain ⟨w, e2, rw'⟩ := vals_at rv hv
  have m1 : q1 ∈ p :: ps := List.mem_iff_getElem?.mpr ⟨i, e1⟩
  have e3 : q1 = PySem.W.minD p ps := reads_one _ _ _ _ _ (al.1 _ m1 _ (minD_mem p ps)) (Reads.keeps hk rd1) rd
  exact ⟨w, H, I.kept hk, rw', q i w e2 (by rw [e1, e3])⟩
theorem zip_at {α β : Type} {i : Nat} {x : α} {y : β} : ∀ {xs : List α} {ys : List β}, xs[i]? = some x → ys[i]? = some y → (x, y) ∈ xs.zip ys := fun {xs ys} h1 h2 => by
  refine List.mem_iff_getElem?.mpr ⟨i, ?_⟩
  rw [List.getElem?_zip_eq_some]
  exact ⟨h1, h2⟩
theorem prim_min : PrimSem g "min" pMin := by
  refine ⟨by decide +kernel, fun k X W cx => ⟨_, _, by decide +kernel, .inl ⟨"min", rfl⟩, cr_minD cx, fun ρ S H ds vs Q kx s rl gg => ?_⟩⟩
  obtain ⟨d, v, rfl, rfl, r, gg⟩ := one_of (F := pMin) rfl rl gg
  obtain ⟨a, ws, xs, rfl, h, rl, g2⟩ := lst_go (K := X.K) s r gg
  cases et : toPs S 1000 xs with
  | none => simp only [et] at g2; exact g2.elim
  | some ps0 =>
    cases ps0 with
    | nil => simp only [et] at g2; exact g2.elim
    | cons p ps =>
      simp only [et] at g2
      split at g2
      · rename_i hx
        refine ⟨a, ws, p, ps, rfl, h, toPs_dp s 1000 xs _ ws et rl, hx.1.1, hx.1.2, fun i w hw hq => ?_⟩
        obtain ⟨d, hd, rd⟩ := rl.getV hw
        have e := hx.2.choose_spec _ (zip_at hd hq) rfl
        have e : d = hx.2.choose := e
        rw [← e] at g2
        exact nowV s g2 rd
      · exact g2.elim
/-! ### 37. sorted -/
def rSortG (K : PySem.W.Frag) : List V → Hp → VK → Prop := fun vs H Q => ∃ (a : Addr) (ws : List V) (zs : List (V × PyData)), vs = [V.ref a] ∧ SqL K H a ws ∧ ws = zs.map (·.1) ∧ DpAll K H ws (zs.map (·.2)) ∧ PySem.W.AllAlike (zs.map (·.2)) ∧ PySem.W.Sortable (zs.map (·.2)) ∧ PyData.depthAll (zs.map (·.2)) ≤ 100 ∧
  ∀ p, H p = none → Q (.ref p) (upd H p (.lst ((zs.mergeSort (PySem.W.dataLe false fun z => z.2)).map (·.1))))
theorem each_of {h : Heap} : ∀ {zs : List (V × PyData)} {us : List Value} {as : List Addr}, Vals (zs.map (·.1)) us → ReadsAll h us (zs.map (·.2)) as → PySem.W.EachIs (fun v (z : V × PyData) => RelV z.1 v ∧ ∃ as, Reads h v z.2 as) us zs
  | [], us, _, r, ra => by
    cases r
    exact .nil
  | z :: zs, us, _, r, ra => by
    cases r with
    | cons r1 r2 =>
      cases ra with
      | cons a1 a2 => exact .cons ⟨r1, _, a1⟩ (each_of r2 a2)
theorem vals_each {R : Value → V × PyData → Prop} (hR : ∀ v z, R v z → RelV z.1 v) : ∀ {us : List Value} {zs : List (V × PyData)}, PySem.W.EachIs R us zs → Vals (zs.map (·.1)) us
  | _, _, .nil => .nil
  | _, _, .cons a t => .cons (hR _ _ a) (vals_each hR t)
theorem cr_sortG {W : WX} (cx : Ctx g k X W) : CallR X (.builtin "sorted") (rSortG X.K) := by
  intro pins s σ H vs us Q I r h
  obtain ⟨a, ws, zs, rfl, hs, ew, hd, al, so, dp, q⟩ := h
  subst ew
  obtain ⟨its, rv, hl, hz⟩ := I.list hs
  obtain ⟨u, rfl, ru⟩ := r.one
  cases ru
  obtain ⟨as, ra⟩ := Dp.readsAll I _ _ its hd rv
  have room := cx.room.un
  have e := each_of rv ra
  have hz : zs.length ≤ sizeLine := by simpa using hz
  refine PySem.W.sorted_data (enc := fun z : V × PyData => z.2) (vs := its) hl.isList e (e.mono fun _ _ z => z.2) al so hz (fun z hm => ?_) fun out hlen eo => ?_
  · have := depth_mem (List.mem_map_of_mem (f := fun z : V × PyData => z.2) hm)
    omega
  · obtain ⟨ep, he'⟩ := PyProof.Rows.sortedAll_at s.heap its out.toArray
    have ln : ((zs.mergeSort (PySem.W.dataLe false fun z => z.2)).map (·.1)).length ≤ sizeLine := by
      rw [List.length_map, List.length_mergeSort]
      exact hz
    have vo : Vals ((zs.mergeSort (PySem.W.dataLe false fun z => z.2)).map (·.1)) out := vals_each (fun _ _ z => z.1) eo
    exact ⟨.ref _, upd H (s.heap.objs.size + 1) (.lst ((zs.mergeSort (PySem.W.dataLe false fun z => z.2)).map (·.1))), I.laid (t' := s.toks) (fun _ _ => PyProof.Rows.sortedAll_old) (Nat.le_succ _) ⟨ln, out, ep, vo, by simpa using he'⟩, rfl, q _ (I.hok.fresh (Nat.le_succ _))⟩
theorem toPs_len : ∀ (n : Nat) {xs : List D} {ps : List PyData}, toPs S n xs = some ps → ps.length = xs.length
  | 0, _, _, e => by cases e
  | n + 1, [], ps, e => by cases e; rfl
  | n + 1, d :: ds, ps, e => by
    have e : (match toP S n d, toPs S n ds with
      | some p, some ps => some (p :: ps)
      | _, _ => none) = some ps := e
    cases e1 : toP S n d with
    | none => rw [e1] at e; cases e
    | some p =>
      cases e2 : toPs S n ds with
      | none => rw [e1, e2] at e; cases e
      | some qs =>
        rw [e1, e2] at e
        cases e
        simp [toPs_len n e2]
theorem trip : ∀ {xs : List D} {ws : List V} {ps : List PyData}, RepL B ρ H xs ws → ps.length = xs.length → ∃ T : List (D × V × PyData), T.map (·.1) = xs ∧ T.map (fun t => t.2.1) = ws ∧ T.map (fun t => t.2.2) = ps ∧ ∀ t ∈ T, Rep B ρ H t.1 t.2.1
  | [], _, [], .nil, _ => ⟨[], rfl, rfl, rfl, fun t h => by cases h⟩
  | d :: xs, _, p :: ps, .cons a r, l => by
    obtain ⟨T, h1, h2, h3, h4⟩ := trip r (show ps.length = xs.length by simpa using l)
    refine ⟨(d, _, p) :: T, by simp [h1], by rw [List.map_cons, h2], by simp [h3], fun t ht => ?_⟩
    rcases List.mem_cons.mp ht with e | e
    · subst e; exact a
    · exact h4 t e
  | _ :: _, _, [], .cons _ _, l => by cases l
  | [], _, _ :: _, .nil, l => by cases l
theorem trip_rep : ∀ {T : List (D × V × PyData)}, (∀ t ∈ T, Rep B ρ H t.1 t.2.1) → RepL B ρ H (T.map (·.1)) (T.map fun t => t.2.1)
  | [], _ => .nil
  | t :: T, h => .cons (h t List.mem_cons_self) (trip_rep fun t ht => h t (List.mem_cons_of_mem _ ht))
theorem prim_sorted : PrimSem g "sorted" pSorted := by
  refine ⟨by decide +kernel, fun k X W cx => ⟨_, _, by decide +kernel, .inl ⟨"sorted", rfl⟩, cr_sortG cx, fun ρ S H ds vs Q kx s rl gg => ?_⟩⟩
  obtain ⟨d, v, rfl, rfl, r, gg⟩ := one_of (F := pSorted) rfl rl gg
  obtain ⟨a, ws, xs, rfl, h, rl, g2⟩ := lst_go (K := X.K) s r gg
  cases et : toPs S 1000 xs with
  | none => simp only [et] at g2; exact g2.elim
  | some ps =>
    simp only [et] at g2
    split at g2
    · rename_i hx
      obtain ⟨T, t1, t2, t3, t4⟩ := trip rl (toPs_len 1000 et)
      have z1 : xs.zip ps = T.map fun t => (t.1, t.2.2) := by rw [← t1, ← t3, List.zip_map', ]
      have m1 : ((xs.zip ps).mergeSort (PySem.W.dataLe false fun z => z.2)).map (·.1) = (T.mergeSort (PySem.W.dataLe false fun t => t.2.2)).map (·.1) := by
        rw [z1, ← List.map_mergeSort (r := PySem.W.dataLe false fun t : Py.D × V × PyData => t.2.2) (s := PySem.W.dataLe false fun z : Py.D × PyData => z.2) (f := fun t : Py.D × V × PyData => (t.1, t.2.2)) (fun a _ b _ => rfl), List.map_map]
        rfl
      have m2 : ((T.map fun t => (t.2.1, t.2.2)).mergeSort (PySem.W.dataLe false fun z => z.2)).map (·.1) = (T.mergeSort (PySem.W.dataLe false fun t => t.2.2)).map fun t => t.2.1 := by
        rw [← List.map_mergeSort (r := PySem.W.dataLe false fun t : Py.D × V × PyData => t.2.2) (s := PySem.W.dataLe false fun z : V × PyData => z.2) (f := fun t : Py.D × V × PyData => (t.2.1, t.2.2)) (fun a _ b _ => rfl), List.map_map]
        rfl
      have p1 : (T.map fun t => (t.2.1, t.2.2)).map (·.2) = ps := by rw [List.map_map, ← t3]; rfl
      refine ⟨a, ws, T.map fun t => (t.2.1, t.2.2), rfl, h, by rw [List.map_map, ← t2]; rfl, by rw [p1]; exact toPs_dp s 1000 xs _ ws et rl, by rw [p1]; exact hx.1, by rw [p1]; exact hx.2.1, by rw [p1]; exact hx.2.2, ?_⟩
      rw [m2]
      rw [m1] at g2
      exact newV s g2 (newLst s (trip_rep fun t ht => t4 t (List.mem_mergeSort.mp ht)))
    · exact g2.elim
/-! ### 38. methods of lists -/
def qAppend : D → Sem := fun d ds => match d, ds with
  | .cell n, [v] => fun S => match S[n]? with
    | some (.lst xs) => if fits (xs.length + 1) then .ok .non (S.set n (.lst (xs ++ [v]))) else .stuck
    | _ => .stuck
  | _, _ => M.fail
def qPop : D → Sem := fun d ds => match d, ds with
  | .cell n, [.int i] => fun S => match S[n]? with
    | some (.lst xs) => if -(2 ^ 63) ≤ i ∧ i < 2 ^ 63 then (match seqIndex? i xs.length with
      | some j => (match xs[j]? with
        | some y => .ok y (S.set n (.lst (xs.eraseIdx j)))
        | none => .stuck)
      | none => .stuck) else .stuck
    | _ => .stuck
  | _, _ => M.fail
theorem meth_append : MethSem g "append" "list" qAppend := by
  refine ⟨.inl rfl, fun k X W cx => ⟨_, _, PySem.F.plainAttrs_list, PySem.F.slot_list_append, PySem.F.type_list_append, mt_append, fun ρ S H d v ds vs Q kx s r rl gg => ?_⟩⟩
  cases r with
  | @cell n a ha =>
    match ds, rl, gg with
    | [], _, gg => exact gg.elim
    | [e], rl, gg =>
      obtain ⟨u, rfl, ru⟩ := rl_one rl
      obtain ⟨cv, ec, cr⟩ := s.get ha
      have gg : Go g.B ρ H (match S[n]? with
        | some (.lst xs) => if fits (xs.length + 1) then .ok .non (S.set n (.lst (xs ++ [e]))) else .stuck
        | _ => .stuck : Out Py.D) (KV1 g.B Q) kx := gg
      rw [ec] at gg
      cases cv with
      | dic _ _ => exact gg.elim
      | ins _ _ => exact gg.elim
      | lst xs =>
        obtain ⟨ws, q, rl⟩ := cell_lst cr
        have gg : Go g.B ρ H (if fits (xs.length + 1) then .ok .non (S.set n (.lst (xs ++ [e]))) else .stuck : Out Py.D) (KV1 g.B Q) kx := gg
        by_cases c : fits (xs.length + 1) = true
        · rw [if_pos c] at gg
          have am : a ∈ ρ.c := List.mem_iff_getElem?.mpr ⟨n, ha⟩
          have ex : Ext ρ H ρ (upd H a (.lst (ws ++ [u]))) := Ext.write s _ am (fun o' u z => by rw [q] at z; cases z)
          exact ⟨a, ws, u, rfl, rfl, q, by rw [← rl.len]; exact fits_le c, gg ρ _ ex (s.write ha (.lst upd_same (RepL.append (rl.mono ex) (.cons (ru.mono ex) .nil)))) _ .non⟩
        · rw [if_neg c] at gg
          exact gg.elim
    | _ :: _ :: _, _, gg => exact gg.elim
  | _ => exact gg.elim
theorem meth_pop : MethSem g "pop" "list" qPop := by
  refine ⟨.inl rfl, fun k X W cx => ⟨_, _, PySem.F.plainAttrs_list, PySem.F.slot_list_pop, PySem.F.type_list_pop, mt_popAt, fun ρ S H d v ds vs Q kx s r rl gg => ?_⟩⟩
  cases r with
  | @cell n a ha =>
    match ds, rl, gg with
    | [], _, gg => exact gg.elim
    | [e], rl, gg =>
      obtain ⟨u, rfl, ru⟩ := rl_one rl
      cases ru with
      | int i =>
        obtain ⟨cv, ec, cr⟩ := s.get ha
        have gg : Go g.B ρ H (match S[n]? with
          | some (.lst xs) => if -(2 ^ 63) ≤ i ∧ i < 2 ^ 63 then (match seqIndex? i xs.length with
            | some j => (match xs[j]? with
              | some y => .ok y (S.set n (.lst (xs.eraseIdx j)))
              | none => .stuck)
            | none => .stuck) else .stuck
          | _ => .stuck : Out Py.D) (KV1 g.B Q) kx := gg
        rw [ec] at gg
        cases cv with
        | dic _ _ => exact gg.elim
        | ins _ _ => exact gg.elim
        | lst xs =>
          obtain ⟨ws, q, rl⟩ := cell_lst cr
          have gg : Go g.B ρ H (if -(2 ^ 63) ≤ i ∧ i < 2 ^ 63 then (match seqIndex? i xs.length with
            | some j => (match xs[j]? with
              | some y => .ok y (S.set n (.lst (xs.eraseIdx j)))
              | none => .stuck)
            | none => .stuck) else .stuck : Out Py.D) (KV1 g.B Q) kx := gg
          by_cases c : -(2 ^ 63) ≤ i ∧ i < 2 ^ 63
          · rw [if_pos c] at gg
            cases ei : seqIndex? i xs.length with
            | none => rw [ei] at gg; exact gg.elim
            | some j =>
              cases ey : xs[j]? with
              | none => rw [ei] at gg; simp only [ey] at gg; exact gg.elim
              | some y =>
                rw [ei] at gg
                simp only [ey] at gg
                obtain ⟨w, ew, rw'⟩ := rl.get ey
                have am : a ∈ ρ.c := List.mem_iff_getElem?.mpr ⟨n, ha⟩
                have ex : Ext ρ H ρ (upd H a (.lst (ws.eraseIdx j))) := Ext.write s _ am (fun o' u z => by rw [q] at z; cases z)
                exact ⟨a, ws, i, j, w, rfl, rfl, q, c.1, c.2, by rw [← rl.len]; exact ei, ew, gg ρ _ ex (s.write ha (.lst upd_same (RepL.eraseIdx j (rl.mono ex)))) _ (rw'.mono ex)⟩
          · rw [if_neg c] at gg
            exact gg.elim
      | _ => exact gg.elim
    | e :: _ :: _, _, gg => cases e <;> exact gg.elim
  | _ => exact gg.elim
end Py
-- PyEI
namespace Py
open PySem PySem.Spec PyProof.Rows L2
/-! ### 39. the own exceptions' __init__: super().__init__(given); self.given = given -/
/-- the def, as the written part has it: body, scope, the cell of __class__ -/
structure SupF (P : Program) (K : PySem.W.Frag) (fI D cc cda : Addr) (fd : FuncData) (st1 st2 : Stmt) : Prop where
  at_ : ∃ oc od osl, K.lookup fI = some ⟨oc, od, .func fd, osl⟩
  body : fd.body = .stmts [st1, st2]
  code : fd.code = .ref cda
  cda : ∃ ccl cdd vs ccs file tf, K.lookup cda = some ⟨ccl, cdd, .fields vs, ccs⟩ ∧ vs[2]? = some (.str file tf) ∧ ((P.main.file : Str) == file) = true
  crec : PySem.W.codeIn K fd.code fd.qualname = true
  clo : fd.closure = [(("__class__" : Str), cc)]
  cell : ∃ cl cld csl, K.lookup cc = some ⟨cl, cld, .cell (some (.ref D)), csl⟩
  cls : ∃ cdD, PySem.W.clsIn K D = some cdD
  glob : fd.globals = mainGlobals
  blt : fd.builtins = builtinsNs
  kind : fd.scope.kind = .function
  co : fd.scope.isCoroutine = false
  gen : fd.scope.isGenerator = false
  nocell : ∀ x ∈ fd.scope.names, x.2 ≠ .cell
  frees : ∀ x, fd.scope.names.lookup x = some .free → x = ("__class__" : Str)
  self : fd.scope.names.lookup ("self" : Str) = some .local
  given : fd.scope.names.lookup ("given" : Str) = some .local
  cl : fd.scope.names.lookup ("__class__" : Str) = some .free
  sup : fd.scope.names.lookup ("super" : Str) = some .globalImplicit
  par : ∃ ar, (fd.params.posonlyargs ++ fd.params.args).head? = some ar ∧ ar.arg = ("self" : Str)
  sh : PySem.W.nsIn K mainGlobals "super" = some none
  st : PySem.W.nsIn K cStatics "thirdparty.any" = some none
  top : (P.main.scope.names.lookup ("super" : Str)).isSome = false
/-- what is asked of the class of the exception that is made -/
structure SupC (K : PySem.W.Frag) (D C : Addr) : Prop where
  oex : OexC K C
  no : PySem.W.findIn K (.ref C) "given" = some none
  mro : PySem.W.mroIn K C (.ref D) = some true
  sup : PySem.W.ks_superIn K C D "__init__" = some (some (.builtin "ValueError.__init__"))
  sub : PySem.W.subIn K (.ref C) (.type "ValueError") = some true
/-- what the def promises -/
def spSup (K : PySem.W.Frag) (D : Addr) : Sp := fun vs H Q _ => ∃ (a C : Addr) (v : V), vs = [.ref a, v] ∧ SupC K D C ∧ H a = some (exo a C none) ∧
  ∀ dx, H dx = none → dx ≠ a → Q .non (upd (upd H dx (exd dx [("given", v)])) a (exo a C (some dx)))
/-- the context of its body -/
def cxI (CX : CXT) (P : Program) (w : World) (K : PySem.W.Frag) (mg : Str → Option Value) (base : Heap) (fd : FuncData) (f : Addr) (A : Around) (outer : List PySem.Env) (s : Shared) (H : Hp) (E : XK) : Cx where
  prog := P
  w := w
  K := K
  mg := mg
  base := base
  A := A.deeper (callEnv fd s.heap.objs.size f)
  N := [("self" : Str), ("given" : Str)]
  s_0 := s
  H_0 := H
  env := callEnv fd s.heap.objs.size f
  outer := outer
  stack := callEnv fd s.heap.objs.size f :: outer
  ex := []
  fn := fun _ => false
  calm := true
  pn := []
  xe := fun e s' => wpAny (model P w) (A.deeper (callEnv fd s.heap.objs.size f)) (leaving (callEnv fd s.heap.objs.size f) e) (fun _ s'' => CX outer H s E e s'') (fun e' s'' => CX outer H s E e' s'') s'
section
variable {CX : CXT} {P : Program} {w : World} {K : PySem.W.Frag} {mg : Str → Option Value} {base : Heap} {fd : FuncData} {f fI D cc cda : Addr} {A : Around} {outer : List PySem.Env} {s : Shared} {H : Hp} {E : XK} {st1 st2 : Stmt}
theorem inv_sup (F : SupF P K fI D cc cda fd st1 st2) (hd : A.handled = none) (e0 : Env0 P w K mg base A outer s H) {x v : V} {ux uv : Value} (rx : RelV x ux) (rv : RelV v uv) {h₀ : Heap} {t : Nat} (ns : h₀.Ns s.heap.objs.size (fun y => ([("self", ux), ("given", uv)] : List (Str × Value)).reverse.lookup y))
    (hk : ∀ b o, s.heap.get? b = some o → h₀.get? b = some o) : Inv (cxI CX P w K mg base fd fI A outer s H E) [] [some x, some v] H { s with heap := h₀, toks := t } := by
  have kin : K.In s.heap := e0.mod.kin.keeps fun b o e => (e0.bs b o e).1
  obtain ⟨cl, cld, csl, hcc⟩ := F.cell
  have cells : ∀ y c, (callEnv fd s.heap.objs.size fI).cells.lookup y = some c → y = ("__class__" : Str) ∧ c = cc := fun y c h => by
    have h : fd.closure.lookup y = some c := h
    rw [F.clo, List.lookup_cons] at h
    cases e : y == ("__class__" : Str) with
    | true => rw [e] at h; exact ⟨eq_of_beq e, (Option.some.inj h).symm⟩
    | false => rw [e] at h; cases h
  have Hcc : H cc = none := (e0.bs cc _ (e0.mod.kin _ _ hcc)).2
  have noA : ∀ b : Addr, b ∉ (cxI CX P w K mg base fd fI A outer s H E).ex := fun b z => absurd (show b ∈ ([] : List Addr) from z) (by simp)
  refine ⟨⟨e0.mod, F.kind, F.glob, F.blt, Nat.le_refl _, fun y z c h1 h2 => ?_, fun y hy => ?_, fun y c h _ => (by cases h), fun _ => hd, Around.frames_deeper e0.frames, .inr ⟨rfl, rfl⟩, fun b z => absurd z (noA b), e0.bs, e0.bsz, fun b _ _ => noA b, fun b z => absurd z (noA b), e0.funs, e0.frf⟩,
    rfl, e0.bare, Un.kept hk, ⟨_, ns, fun i y v' h1 h2 h3 => ?_⟩, fun y c h => ?_, e0.hok.fresh (Nat.le_refl _), fun y c h => ?_, fun p hp => absurd (show p ∈ ([] : List (Addr × Obj)) from hp) (by simp), e0.hok.kept hk, rfl⟩
  · rw [(cells y c h1).1, (cells z c h2).1]
  · have hy : fd.scope.names.lookup y = some .cell ∨ fd.scope.names.lookup y = some .free := hy
    rcases hy with hy | hy
    · exact absurd rfl (F.nocell _ (PySem.mem_of_lookup hy))
    · have := F.frees y hy
      subst this
      exact ⟨cc, by show fd.closure.lookup _ = _; rw [F.clo] <;> rfl⟩
  · match i, h1, h2 with
    | 0, h1, h2 =>
      cases h1
      cases h2
      exact ⟨ux, rx, .inl ⟨F.self, rfl⟩⟩
    | 1, h1, h2 =>
      cases h1
      cases h2
      exact ⟨uv, rv, .inl ⟨F.given, rfl⟩⟩
    | i + 2, h1, h2 => cases h1
  · obtain ⟨_, rfl⟩ := cells y c h
    exact ⟨_, _, hk _ _ (kin _ _ hcc), rfl⟩
  · obtain ⟨_, rfl⟩ := cells y c h
    exact Hcc
/-- the state at a step, its heap named -/
theorem inv_eta {X : Cx} {pins : List (Addr × Obj)} {σ : L2.St} {H : Hp} {s : Shared} (I : Inv X pins σ H s) : Inv X pins σ H { s with heap := s.heap, toks := s.toks } := I
/-- super() -/
theorem sup_base (F : SupF P K fI D cc cda fd st1 st2) {C a : Addr} {v : V} (T : SupC K D C) {p0 p1 : Pos} {whole : PySem.Sem Value} {Q : Value → Shared → Prop} {EE : Value → Shared → Prop} {s1 : Shared}
    (I : Inv (cxI CX P w K mg base fd fI A outer s H E) [] [some (.ref a), some v] H s1) (ea : H a = some (exo a C none))
    (h : ∀ so h', h'.get? so = some (PySem.W.ks_superObj D a C) → (∀ b o, s1.heap.get? b = some o → h'.get? b = some o) → Inv (cxI CX P w K mg base fd fI A outer s H E) [] [some (.ref a), some v] H { s1 with heap := h' } → Q (.ref so) { s1 with heap := h' }) :
    PySem.wpAt (model P w) (A.deeper (callEnv fd s.heap.objs.size fI)) (.func [st1, st2] (callEnv fd s.heap.objs.size fI)) (attributeBase (.Call (.Name "super" p0) [] [] p1) "__init__" (callEnv fd s.heap.objs.size fI) whole) Q EE s1 := by
  have kin : K.In s1.heap := I.kIn
  obtain ⟨oc, od, osl, hfI⟩ := F.at_
  obtain ⟨ar, hpar, har⟩ := F.par
  obtain ⟨ccl, cdd, vs, ccs, file, tf, hcda, hvs, hfile⟩ := F.cda
  obtain ⟨cl, cld, csl, hcc⟩ := F.cell
  obtain ⟨cdD, hD⟩ := F.cls
  obtain ⟨oD, hD1, hD2⟩ : ∃ oD, s1.heap.get? D = some oD ∧ oD.data = .cls cdD := by
    unfold PySem.W.clsIn at hD
    split at hD
    · rename_i e
      cases hD
      exact ⟨_, kin _ _ e, rfl⟩
    · cases hD
  obtain ⟨t1, hx⟩ := exo_at I.hok ea
  obtain ⟨m, hm, hl⟩ := I.loc
  obtain ⟨u, ru, lu⟩ := hl 0 "self" (.ref a) rfl rfl (.inl F.self)
  cases ru
  have lself : m ("self" : Str) = some (.ref a) := by
    rcases lu with ⟨_, e⟩ | ⟨k, _⟩
    · exact e
    · have k : fd.scope.names.lookup ("self" : Str) = some .cell ∨ fd.scope.names.lookup ("self" : Str) = some .free := k
      rw [F.self] at k
      rcases k with k | k <;> cases k
  obtain ⟨hh, g, d, t, os⟩ := s1
  refine ks_wpAt_super_base (env := callEnv fd s.heap.objs.size fI) F.sup F.cl rfl rfl (kin _ _ hfI) rfl hpar F.code (kin _ _ hcda) rfl hvs hfile F.top ?_
  obtain ⟨mb, hmb, hboot⟩ := I.mod.blt
  have hmg : (callEnv fd s.heap.objs.size fI).globals = mainGlobals := F.glob
  have hmb' : (callEnv fd s.heap.objs.size fI).builtins = builtinsNs := F.blt
  refine PySem.W.ks_loadName_global F.kind F.sup (Calls.loadGlobal_builtin (env := callEnv fd s.heap.objs.size fI) (mg := mg) (mb := mb) (by rw [hmg]; exact I.mod.glob.keeps I.bk) (PySem.W.mg_none_of kin (I.mod.glob.keeps I.bk) F.sh) (by rw [hmb']; exact hmb.keeps I.bk)
    ((hboot _ (by decide +kernel)).trans (show bootBuiltins "super" = some (.type "super") by decide +kernel)) ⟨rfl, ?_⟩)
  refine wpAny_loadName_free F.kind F.cl (show (callEnv fd s.heap.objs.size fI).cells.lookup ("__class__" : Str) = some cc by show fd.closure.lookup _ = _; rw [F.clo] <;> rfl) ⟨_, kin _ _ hcc, rfl⟩ ?_
  rw [har]
  refine wpAny_loadName_local F.kind F.self hm lself ?_
  refine ks_wpAny_isType_cls hD1 hD2 ⟨rfl, ?_⟩
  refine ks_wpAny_call_super hD1 hD2 hx rfl (fun c e => by cases e) (PySem.W.looks_mroIn kin T.mro) fun h' e1 k => ?_
  exact h _ h' e1 k (I.kept (t' := t) k)
/-- super().__init__(given) -/
theorem sup_call (F : SupF P K fI D cc cda fd st1 st2) {C a : Addr} {v : V} (T : SupC K D C) {p0 p1 p2 p3 pos : Pos} {Q : Value → Shared → Prop} {s1 : Shared} (hline : (p2.endLine == pos.line) = true)
    (I : Inv (cxI CX P w K mg base fd fI A outer s H E) [] [some (.ref a), some v] H s1) (ea : H a = some (exo a C none)) (h : ∀ s2, Inv (cxI CX P w K mg base fd fI A outer s H E) [] [some (.ref a), some v] H s2 → Q .none s2) :
    PySem.wpAt (model P w) (A.deeper (callEnv fd s.heap.objs.size fI)) (.func [st1, st2] (callEnv fd s.heap.objs.size fI)) (eval (.Call (.Attribute (.Call (.Name "super" p0) [] [] p1) "__init__" p2) [.Name "given" p3] [] pos) (callEnv fd s.heap.objs.size fI)) Q
      (cxI CX P w K mg base fd fI A outer s H E).xe s1 := by
  rw [arm_eval_Call]
  refine PySem.wpAt_bind (sup_base F T I ea fun so h1 hso k1 I1 => ?_)
  refine PySem.wpAt_of_wpAny (wpAny_bind (wpAny_standAt ?_))
  have hform : methodCallForm (([.Name "given" p3] : List PySem.Expr).length + ([] : List Keyword).length) (backTo pos (starEach [.Name "given" p3] (callEnv fd s.heap.objs.size fI))) (backToKw pos (keywordEach [] (callEnv fd s.heap.objs.size fI))) = true := rfl
  unfold methodCall
  rw [hform]
  have kin1 : K.In h1 := I1.kIn
  obtain ⟨t1, hx⟩ := exo_at I1.hok ea
  have hsup := T.sup
  unfold PySem.W.ks_superIn at hsup
  obtain ⟨cd, hcd, hal⟩ := Option.bind_eq_some_iff.mp hsup
  obtain ⟨nm, qn, N', bs, bm, sn, sub, ab, col, dd, k0, k1', k2, k3, k5, hC, hbm⟩ := T.oex.cls
  have hxC : a ≠ C := fun e => by
    have c1 := kin1 _ _ hC
    rw [← e] at c1
    have c2 : h1.get? a = _ := hx
    rw [c1] at c2
    cases c2
  have hI : PySem.W.Looks (model P w) h1 (isInstance (.ref a) (.type "ValueError")) true := by
    have lt : PySem.W.Looks (model P w) h1 (typeOf (.ref a)) (.ref C) := fun A Q E s k q => wpAny_typeOf_ref (k _ _ hx) q
    exact lt.andThen (PySem.W.looks_subIn kin1 T.sub)
  obtain ⟨sh, sg, sd, st, so'⟩ := s1
  refine wpAny_bind (wpAny_holding (PySem.W.kxs_getMethod PySem.W.kxs_ValueError hso (PySem.W.looks_opaque kin1 F.st) (l₀ := cd.mro) (fun A Q E s k q => wpAny_bind ((PySem.W.looks_clsIn kin1 hcd) A _ E s k (wpAny_pure q))) rfl kin1 hal hI hxC (by decide +kernel) ?_))
  have hpos : methodCallPos true (.Call (.Name "super" p0) [] [] p1) (callEnv fd s.heap.objs.size fI) p2 pos = pure pos := by
    unfold methodCallPos
    simp [hline]
  refine wpAny_bind (wpAny_of_eq hpos ?_)
  -- the wrapper stands through the argument's evaluation
  have I2 : Inv (cxI CX P w K mg base fd fI A outer s H E) [] [some (.ref a), some v] H ⟨h1.push (PySem.W.kxs_mw "ValueError.__init__" a), sg, sd, st + 1, so'⟩ := I1.kept (h' := h1.push (PySem.W.kxs_mw "ValueError.__init__" a)) (t' := st + 1) fun b o e => Heap.get?_push_of_some _ e
  have hu0 : (h1.push (PySem.W.kxs_mw "ValueError.__init__" a)).get? h1.objs.size = some (PySem.W.kxs_mw "ValueError.__init__" a) := Heap.get?_push_at rfl rfl
  obtain ⟨f0, f1, f2, _, _, _⟩ := I1.fpOk (H' := H) (b := h1.objs.size) (Nat.le_refl _) (I1.hok.fresh (Nat.le_refl _))
  have I3 := I2.pins_of (pins' := [(h1.objs.size, PySem.W.kxs_mw "ValueError.__init__" a)]) fun p hp => by
    have e : p = (h1.objs.size, PySem.W.kxs_mw "ValueError.__init__" a) := by simpa using hp
    subst e
    exact ⟨hu0, f0, f1, f2, fun v z => by cases z⟩
  refine PySem.W.kxs_callWith (i := "ValueError.__init__") (x := a) rfl ?_
  refine Calls.evalArgs_plain ?_
  have pv : PA (cxI CX P w K mg base fd fI A outer s H E) [.Name "given" p3] (tCons (tVar 1) tNil) := pa_cons (pe_var (i := 1) rfl (.inl F.given)) pa_nil
  refine thn (pv.run pos _ _ _ _ (fun xs H' => xs = [v] ∧ H' = H) I3 ⟨v, rfl, rfl, rfl⟩) fun us s3 ⟨xs, H', J, rx, ex, eH⟩ => ?_
  subst ex
  subst eH
  have hu := (J.pin (h1.objs.size, PySem.W.kxs_mw "ValueError.__init__" a) (by show _ ∈ [] ++ _; simp)).1
  refine ⟨hu, ?_⟩
  obtain ⟨uv, rfl, _⟩ := rx.one
  obtain ⟨t2, hx3⟩ := exo_at J.hok ea
  have hC3 := J.kIn _ _ hC
  obtain ⟨h3, g3, d3, t3, os3⟩ := s3
  refine wpAny_call (codeAny_of_tree (c := .call (.ref h1.objs.size) ⟨[uv], []⟩) (?_))
  show wpAny _ _ (callAny (.ref h1.objs.size) ⟨[uv], []⟩) _ _ _
  simp only [callAny]
  refine wpAny_bind (wpAny_load hu (?_))
  simp only [PySem.W.kxs_mw, show (Value.type "method-wrapper" == Value.type "method" || Value.type "method-wrapper" == Value.type "builtin_function_or_method" || Value.type "method-wrapper" == Value.type "method-wrapper") = true from by decide, if_true]
  refine PySem.W.KFB.if_so (by decide) (?_)
  have FB := PySem.F.excBase_ValueError
  refine wpAny_bind (PySem.W.check_bound_init FB.toExcCallFacts hC3 hx3 rfl (?_))
  refine wpAny_bind (wpAny_pure (wpAny_pure (?_)))
  refine ⟨plainId_quiet FB.init.plain _, codeAny_builtin FB.initEntry (?_)⟩
  refine PySem.W.exc_init_tree (cls := .ref C) (t0 := t2) (dv := none) (c2 := .none) (c3 := .none) (b4 := .bool false) hx3 (by show 1 ≤ sizeLine; rw [sizeLine_eq]; omega) fun h4 kk e4 _ => ?_
  have J2 := J.write (t' := t3) (h' := h4) (x := a) (e := a) (o := exo a C none) (by rw [ea]; exact True.intro) (.inl rfl) kk ⟨_, e4⟩ (exo_ok e4)
  have eu : upd H' a (exo a C none) = H' := by
    funext b
    by_cases hb : b = a
    · rw [hb, upd_same, ea]
    · rw [upd_ne hb]
  rw [eu] at J2
  exact h _ (J2.pins_of fun p hp => absurd hp (by simp))
end
end Py
-- PyEJ
namespace Py
open PySem PySem.Spec PyProof.Rows L2
/-- the body's two statements -/
def supB : Stmt → Stmt → Bool
  | .Expr (.Call (.Attribute (.Call (.Name s _) [] [] _) i p2) [.Name g _] [] pos) _, .Assign [.Attribute (.Name se _) gi _] (.Name gv _) _ =>
    decide (s = ("super" : Str)) && (decide (i = ("__init__" : Str)) && (decide (g = ("given" : Str)) && (decide (se = ("self" : Str)) && (decide (gi = ("given" : Str)) && (decide (gv = ("given" : Str)) && (p2.endLine == pos.line))))))
  | _, _ => false
section
variable {CX : CXT} {P : Program} {w : World} {K : PySem.W.Frag} {mg : Str → Option Value} {base : Heap} {fd : FuncData} {fI D cc cda : Addr} {st1 st2 : Stmt}
theorem sup_ok {k : Nat} (F : SupF P K fI D cc cda fd st1 st2) (hb : supB st1 st2 = true) : FnOk P w K mg base CX (k + 1) fI fd [("self" : Str), ("given" : Str)] (spSup K D) := by
  refine ⟨fun vs H Q E ⟨a, C, v, e, _⟩ => by rw [e] <;> rfl, fun A outer s H args us vs Q E hr e0 bind r hsp => ?_⟩
  obtain ⟨a, C, v, rfl, T, ea, hq⟩ := hsp
  obtain ⟨ua, uv, rfl, ra, rv⟩ := r.two
  have kin : K.In s.heap := e0.mod.kin.keeps fun b o e => (e0.bs b o e).1
  obtain ⟨oc, od, osl, hfI⟩ := F.at_
  unfold supB at hb
  split at hb
  · rename_i sN p0 p1 iN p2 gN p3 pos q1 seN q2 giN q3 gvN q4 q5
    obtain ⟨b1, hb⟩ := band hb
    obtain ⟨b2, hb⟩ := band hb
    obtain ⟨b3, hb⟩ := band hb
    obtain ⟨b4, hb⟩ := band hb
    obtain ⟨b5, hb⟩ := band hb
    obtain ⟨b6, b7⟩ := band hb
    have b1 := of_decide_eq_true b1
    have b2 := of_decide_eq_true b2
    have b3 := of_decide_eq_true b3
    have b4 := of_decide_eq_true b4
    have b5 := of_decide_eq_true b5
    have b6 := of_decide_eq_true b6
    subst b1 b2 b3 b4 b5 b6
    refine ks_codeAny_call_defAt (fd := fd) hr.depth (kin _ _ hfI) rfl (e0.mod.nolimit.keeps fun b o e => (e0.bs b o e).1) (PySem.W.codeRec_of kin F.crec) F.body bind F.nocell (fun x hx => ?_) (fun h₀ ns hk => ?_) F.co F.gen F.kind
    · have hx : x ∈ [(("self" : Str), ua), (("given" : Str), uv)] := hx
      rcases List.mem_cons.mp hx with e | hx
      · rw [e]; exact F.self
      · rcases List.mem_cons.mp hx with e | hx
        · rw [e]; exact F.given
        · cases hx
    · have I := inv_sup (CX := CX) (E := E) (t := s.toks + 2) F hr.hd e0 ra rv ns hk
      refine ks_wpAt_execs_cons (ks_wpAt_Expr_any (sup_call F T b7 I ea fun s2 I2 => ?_) ?_)
      · refine PySem.wpAt_of_wpAny ?_
        have p2 := pss_one (ps_ost (X := cxI CX P w K mg base fd fI A outer s H E) (o := .Name "self" q2) (e := .Name "given" q4) (f := "given") (p' := q3) (pos := q5) (pe_var (i := 0) rfl (.inl F.self)) (pe_var (i := 1) rfl (.inl F.given)))
        refine wpAny_mono (p2.run [] s2 _ H { nx := fun _ H' => Q .non H', rt := fun _ _ => False } I2 ?_) (fun fl s' hs => ?_) fun e s' hs => hs
        · exact ⟨v, rfl, .ref a, rfl, a, C, rfl, T.oex, T.no, .inl ⟨ea, fun dx h1 h2 => hq dx h1 h2⟩⟩
        · cases fl with
          | next =>
            obtain ⟨σ', H', J, q⟩ := hs
            exact ⟨.non, H', J.os, J.bare, J.base, J.hok, rfl, q⟩
          | ret u =>
            obtain ⟨_, _, _, _, _, q⟩ := hs
            exact q.elim
          | brk =>
            obtain ⟨_, _, _, q⟩ := hs
            exact q.elim
          | cont =>
            obtain ⟨_, _, _, q⟩ := hs
            exact q.elim
      · unfold interactive
        rw [show (callEnv fd s.heap.objs.size fI).scope.kind = .function from F.kind]
        rfl
  · cases hb
end
/-! ### 40. C(d) makes the exception that keeps d -/
def fGiven (c : Str) : List D → M Exn := fun ds => match ds with
  | [d] => M.pure ⟨c, [("given", d)]⟩
  | _ => M.fail
theorem exc_sem {g : Gx} {k : Nat} {fd : FuncData} {fI D cc cda : Addr} {st1 st2 : Stmt} {c : Str} (hk : 2 ≤ k) (F : SupF g.P g.B.K fI D cc cda fd st1 st2) (hb : supB st1 st2 = true) (T : SupC g.B.K D (He.ga g.B.K c))
    (iC : PySem.W.findIn g.B.K (.ref (He.ga g.B.K c)) "__init__" = some (some (.ref fI))) (tI : PySem.W.typeIn g.B.K (.ref fI) = some (.type "function")) (bi : Binds g.B.K fd [("self" : Str), ("given" : Str)] []) (hm : g.mg c = some (.ref (He.ga g.B.K c))) : ExcSem g k c (fGiven c) := by
  intro X W p pos e es a cx hn pa ns
  obtain ⟨hg, hd, _⟩ := gl_of hn
  rw [List.all_cons] at ns
  obtain ⟨n1, n2⟩ := band ns
  have F1 : FnOk X.prog X.w X.K X.mg X.base (L2.CX X.prog X.w) 1 fI fd [("self" : Str), ("given" : Str)] (spSup X.K D) := by
    rw [cx.prog, cx.w, cx.K, cx.mg, cx.base]
    exact sup_ok F hb
  have T' : SupC X.K D (He.ga g.B.K c) := by rw [cx.K]; exact T
  have pm := pmk_oex (p := p) (pos := pos) T'.oex (by rw [cx.K]; exact iC) (by rw [cx.K]; exact tI) F1 (cx.room.mono hk) (by rw [cx.K]; exact bi) .nil passL hg (by rw [cx.mg]; exact hm) pa hd (star_cons n1) (star_any n2)
  intro pins s σ H Q I ⟨ρ, env, S, hs, sm, gg⟩
  refine pm pins s σ H Q I ?_
  refine subA (k := fun x ρ' _ H' => ∀ cls dd, RepX g.B ρ' H' x cls dd → Q cls dd H') hs sm gg fun ds vs ρ1 S1 H1 e1 hs1 s1 rl g1 => ?_
  match ds, rl, g1 with
  | [], _, g1 => exact g1.elim
  | _ :: _ :: _, _, g1 => exact g1.elim
  | [d], rl, g1 =>
    obtain ⟨v, rfl, r⟩ := rl_one rl
    refine ⟨by simp, fun ad had => ⟨ad, _, v, rfl, T', upd_same, fun dx h1 h2 => ?_⟩⟩
    have h1' : H1 dx = none := by rw [upd_ne h2] at h1; exact h1
    refine ⟨rfl, dx, [(("given" : Str), v)], upd_same, by rw [upd_ne h2, upd_same], h1', ?_⟩
    have eH : upd (del (upd (upd (upd H1 ad (exo ad (He.ga g.B.K c) none)) dx (exd dx [(("given" : Str), v)])) ad (exo ad (He.ga g.B.K c) (some dx))) ad) dx (.xd [(("given" : Str), v)]) = upd H1 dx (.xd [(("given" : Str), v)]) := by
      funext b
      by_cases e1 : b = dx
      · rw [e1, upd_same, upd_same]
      · rw [upd_ne e1, upd_ne e1]
        by_cases e2 : b = ad
        · rw [e2, del_same, had]
        · rw [del_ne e2, upd_ne e2, upd_ne e1, upd_ne e2]
    rw [eH]
    have ex := Ext.alloc s1 (.xd [(("given" : Str), v)]) h1'
    refine g1 ρ1 _ ex (s1.alloc _ h1') _ _ ⟨rfl, dx, _, rfl, upd_same, s1.fresh h1', fun n d' hl => ?_⟩
    have hl : ([(("given" : Str), d)] : List (Str × Py.D)).lookup n = some d' := hl
    rw [List.lookup_cons] at hl
    cases en : n == ("given" : Str) with
    | true =>
      rw [en] at hl
      cases hl
      exact ⟨v, by rw [List.lookup_cons, en], r.mono ex⟩
    | false => rw [en] at hl; cases hl
end Py
-- PyZ2
namespace Py
open PySem PySem.Spec PyProof.Rows L2
variable {g : Gx} {k : Nat} {N : List Str} {ρ2 : Rh} {H2 : Hp}
/-! ### 41. dict(pairs) -/
def pairsD : List D → Option (List (Key × D))
  | [] => some []
  | .tup [q, v] :: r => (match keyOf q, pairsD r with
    | some y, some t => some ((y, v) :: t)
    | _, _ => none)
  | _ => none
def pDict : Sem := fun ds => match ds with
  | [d] => M.bind (lstOf d) fun xs => match pairsD xs with
    | some kvs => mkD (mergeD [] kvs)
    | none => M.fail
  | _ => M.fail
theorem pairs_rep : ∀ {xs : List D} {kvs : List (Key × D)} {vs : List V} {K : PySem.W.Frag}, pairsD xs = some kvs → RepL B ρ H xs vs → ∃ (ps : List Addr) (kws : List (Key × V)), vs = ps.map V.ref ∧ Paired (fun p kv => SqT K H p [kV kv.1, kv.2]) ps kws ∧ KRep B ρ H kvs kws
  | [], kvs, _, _, e, r => by
    cases e
    cases r
    exact ⟨[], [], rfl, .nil, .nil⟩
  | d :: xs, kvs, _, K, e, .cons a r => by
    cases d with
    | tup ds =>
      match ds, e with
      | [q, v], e =>
        have e : (match keyOf q, pairsD xs with
          | some y, some t => some ((y, v) :: t)
          | _, _ => none) = some kvs := e
        cases e1 : keyOf q with
        | none => rw [e1] at e; cases e
        | some y =>
          cases e2 : pairsD xs with
          | none => rw [e1, e2] at e; cases e
          | some t =>
            rw [e1, e2] at e
            cases e
            obtain ⟨p, ws, rfl, n, hp, rl⟩ := rep_tup a
            obtain ⟨u, w, rfl, r1, r2⟩ := rl_two rl
            obtain ⟨ps, kws, rfl, pp, kr⟩ := pairs_rep (K := K) e2 r
            have eu := keyOf_rep e1 r1
            subst eu
            exact ⟨p :: ps, (y, w) :: kws, rfl, .cons (SqT.of hp) pp, .cons ⟨rfl, r2⟩ kr⟩
      | [], e => cases e
      | [_], e => cases e
      | _ :: _ :: _ :: _, e => cases e
    | _ => cases e
theorem prim_dict : PrimSem g "dict" pDict := by
  refine ⟨by decide +kernel, fun k X W cx => ⟨_, _, boot_dict, .inr ⟨"dict", rfl⟩, call_dictP cx.calm, fun ρ S H ds vs Q kx s rl gg => ?_⟩⟩
  obtain ⟨d, v, rfl, rfl, r, gg⟩ := one_of (F := pDict) rfl rl gg
  obtain ⟨a, ws, xs, rfl, h, rl, g2⟩ := lst_go (K := X.K) s r gg
  cases e : pairsD xs with
  | none => rw [e] at g2; exact g2.elim
  | some kvs =>
    rw [e] at g2
    obtain ⟨ps, kws, rfl, pp, kr⟩ := pairs_rep (K := X.K) e rl
    refine ⟨a, ps, kws, rfl, h, pp, fun p hp => ?_⟩
    have ex := Ext.allocC s (.dK (mergeK [] kws)) hp
    refine g2 (ρ.more p) _ ex (s.allocC hp (.dic upd_same ((KRep.merge .nil kr).mono ex))) _ (.cell ?_)
    rw [← s.len]
    exact more_at ρ p
end Py
-- PyZ3
namespace Py
open PySem PySem.Spec PyProof.Rows L2
variable {g : Gx} {k : Nat} {N : List Str} {ρ2 : Rh} {H2 : Hp}
/-! ### 42. methods of dicts, extend, dict(d) -/
def qGet : D → Sem := fun d ds => match d, ds with
  | .cell n, [y, z] => fun S => match S[n]?, keyOf y with
    | some (.dic _ kvs), some k => .ok ((valD kvs k).getD z) S
    | _, _ => .stuck
  | _, _ => M.fail
def qSetd : D → Sem := fun d ds => match d, ds with
  | .cell n, [y, z] => fun S => match S[n]?, keyOf y with
    | some (.dic false kvs), some k => if fits (kvs.length + 1) then (match valD kvs k with
      | some v => .ok v S
      | none => .ok z (S.set n (.dic false (putD kvs k z)))) else .stuck
    | _, _ => .stuck
  | _, _ => M.fail
def qExtend : D → Sem := fun d ds => match d, ds with
  | .cell n, [y] => M.bind (litOf y) fun ys S => match S[n]? with
    | some (.lst xs) => if fits (xs.length + ys.length) then .ok .non (S.set n (.lst (xs ++ ys))) else .stuck
    | _ => .stuck
  | _, _ => M.fail
def rGet2 : V → List V → Hp → VK → Prop := fun x vs H Q => ∃ (a : Addr) (y z : V) (o : Option V), x = .ref a ∧ vs = [y, z] ∧ DGet H a y o ∧ Q (o.getD z) H
theorem mt_get2 {X : Cx} (hu : X.A.units + 1 < cLine) : MtR X "dict.get" rGet2 := by
  intro pins s σ H x vs v us Q I rx rv h
  obtain ⟨a, y, z, o, rfl, rfl, g, q⟩ := h
  cases rx
  cases rv with
  | cons ry rv =>
    cases rv with
    | cons rz rv =>
      cases rv
      exact d_get2 hu I g ry rz fun w' s' I' rw' => ⟨_, H, I', rw', q⟩
theorem mt_setd {X : Cx} : MtR X "dict.setdefault" L2.rSetd := by
  intro pins s σ H x vs v us Q I rx rv h
  obtain ⟨a, kvs, k, d, rfl, rfl, e, hl, h1, h2⟩ := h
  cases rx
  cases rv with
  | cons ry rv =>
    cases rv with
    | cons rz rv =>
      cases rv
      exact d_setd I e ry rz hl (fun v hv w' s' I' rw' => ⟨v, _, I', rw', h1 v hv⟩) fun hn w' s' I' rw' => ⟨d, _, I', rw', h2 hn⟩
theorem meth_get : MethSem g "get" "dict" qGet := by
  refine ⟨.inr (.inl rfl), fun k X W cx => ⟨"dict.get", rGet2, PySem.F.plainAttrs_dict, PySem.F.slot_dict_get, PySem.F.type_dict_get, mt_get2 (by have := cx.room.un; omega), fun ρ S H d v ds vs Q kx s r rl gg => ?_⟩⟩
  cases r with
  | @cell n a ha =>
    match ds, rl, gg with
    | [], _, gg => exact gg.elim
    | [_], _, gg => exact gg.elim
    | [y, z], rl, gg =>
      obtain ⟨u, w, rfl, ru, rw'⟩ := rl_two rl
      obtain ⟨cv, ec, cr⟩ := s.get ha
      have gg : Go g.B ρ H (match S[n]?, keyOf y with
        | some (.dic _ kvs), some k => .ok ((valD kvs k).getD z) S
        | _, _ => .stuck : Out Py.D) (KV1 g.B Q) kx := gg
      rw [ec] at gg
      cases cv with
      | lst _ => exact gg.elim
      | ins _ _ => exact gg.elim
      | dic lk kvs =>
        cases ek : keyOf y with
        | none => rw [ek] at gg; exact gg.elim
        | some q =>
          rw [ek] at gg
          have eu := keyOf_rep ek ru
          subst eu
          obtain ⟨o, dg, hv⟩ := dget_cell cr q
          refine ⟨a, _, w, o, rfl, rfl, dg, ?_⟩
          rcases hv with ⟨e1, e2⟩ | ⟨d0, v0, e1, e2, r0⟩
          · subst e2
            have gg : Go g.B ρ H (.ok ((valD kvs q).getD z) S) (KV1 g.B Q) kx := gg
            rw [e1] at gg
            exact nowV s gg rw'
          · subst e2
            have gg : Go g.B ρ H (.ok ((valD kvs q).getD z) S) (KV1 g.B Q) kx := gg
            rw [e1] at gg
            exact nowV s gg r0
    | _ :: _ :: _ :: _, _, gg => exact gg.elim
  | _ => exact gg.elim
theorem meth_setdefault : MethSem g "setdefault" "dict" qSetd := by
  refine ⟨.inr (.inl rfl), fun k X W cx => ⟨"dict.setdefault", L2.rSetd, PySem.F.plainAttrs_dict, PySem.F.slot_dict_setdefault, PySem.F.type_dict_setdefault, mt_setd, fun ρ S H d v ds vs Q kx s r rl gg => ?_⟩⟩
  cases r with
  | @cell n a ha =>
    match ds, rl, gg with
    | [], _, gg => exact gg.elim
    | [_], _, gg => exact gg.elim
    | [y, z], rl, gg =>
      obtain ⟨u, w, rfl, ru, rw'⟩ := rl_two rl
      obtain ⟨cv, ec, cr⟩ := s.get ha
      have gg : Go g.B ρ H (match S[n]?, keyOf y with
        | some (.dic false kvs), some k => if fits (kvs.length + 1) then (match valD kvs k with
          | some v => .ok v S
          | none => .ok z (S.set n (.dic false (putD kvs k z)))) else .stuck
        | _, _ => .stuck : Out Py.D) (KV1 g.B Q) kx := gg
      rw [ec] at gg
      cases cv with
      | lst _ => exact gg.elim
      | ins _ _ => exact gg.elim
      | dic lk kvs =>
        cases lk with
        | true => exact gg.elim
        | false =>
          cases ek : keyOf y with
          | none => rw [ek] at gg; exact gg.elim
          | some q =>
            rw [ek] at gg
            have eu := keyOf_rep ek ru
            subst eu
            cases cr with
            | @dic _ _ kws hq kr =>
            have gg : Go g.B ρ H (if fits (kvs.length + 1) then (match valD kvs q with
              | some v => .ok v S
              | none => .ok z (S.set n (.dic false (putD kvs q z)))) else .stuck : Out Py.D) (KV1 g.B Q) kx := gg
            have hl : kws.length = kvs.length := (Paired.length kr).symm
            by_cases c : fits (kvs.length + 1) = true
            · rw [if_pos c] at gg
              have hc := fits_le c
              rcases KRep.val kr q with ⟨e1, e2⟩ | ⟨d0, v0, e1, e2, r0⟩
              · rw [e1] at gg
                have gg : Go g.B ρ H (.ok z (S.set n (.dic false (putD kvs q z)))) (KV1 g.B Q) kx := gg
                have am : a ∈ ρ.c := List.mem_iff_getElem?.mpr ⟨n, ha⟩
                have ex : Ext ρ H ρ (upd H a (.dK (putK kws q w))) := Ext.write s _ am (fun o' u z => by rw [hq] at z; cases z)
                refine ⟨a, kws, q, w, rfl, rfl, hq, by omega, fun u hu => (by rw [e2] at hu; cases hu), fun _ => gg ρ _ ex (s.write ha (.dic upd_same ((KRep.put rw' kr).mono ex))) _ (rw'.mono ex)⟩
              · rw [e1] at gg
                have gg : Go g.B ρ H (.ok d0 S) (KV1 g.B Q) kx := gg
                refine ⟨a, kws, q, w, rfl, rfl, hq, by omega, fun u hu => ?_, fun hn => by rw [e2] at hn; cases hn⟩
                rw [e2] at hu
                cases hu
                exact nowV s gg r0
            · rw [if_neg c] at gg
              exact gg.elim
    | _ :: _ :: _ :: _, _, gg => exact gg.elim
  | _ => exact gg.elim
theorem meth_extend : MethSem g "extend" "list" qExtend := by
  refine ⟨.inl rfl, fun k X W cx => ⟨"list.extend", L2.rExtend, PySem.F.plainAttrs_list, PySem.F.slot_list_extend, PySem.F.type_list_extend, mt_extend, fun ρ S H d v ds vs Q kx s r rl gg => ?_⟩⟩
  cases r with
  | @cell n a ha =>
    match ds, rl, gg with
    | [], _, gg => exact gg.elim
    | [y], rl, gg =>
      obtain ⟨u, rfl, ru⟩ := rl_one rl
      obtain ⟨cv, ec, cr⟩ := s.get ha
      obtain ⟨b, zs, ys, rfl, hb, rb, gg⟩ := lit_go s ru gg
      have gg : Go g.B ρ H (match S[n]? with
        | some (.lst xs) => if fits (xs.length + ys.length) then .ok .non (S.set n (.lst (xs ++ ys))) else .stuck
        | _ => .stuck : Out Py.D) (KV1 g.B Q) kx := gg
      rw [ec] at gg
      cases cv with
      | dic _ _ => exact gg.elim
      | ins _ _ => exact gg.elim
      | lst xs =>
        obtain ⟨ws, q, rl⟩ := cell_lst cr
        have gg : Go g.B ρ H (if fits (xs.length + ys.length) then .ok .non (S.set n (.lst (xs ++ ys))) else .stuck : Out Py.D) (KV1 g.B Q) kx := gg
        by_cases c : fits (xs.length + ys.length) = true
        · rw [if_pos c] at gg
          have am : a ∈ ρ.c := List.mem_iff_getElem?.mpr ⟨n, ha⟩
          have ex : Ext ρ H ρ (upd H a (.lst (ws ++ zs))) := Ext.write s _ am (fun o' u z => by rw [q] at z; cases z)
          exact ⟨a, b, ws, zs, rfl, rfl, q, hb, by rw [← rl.len, ← rb.len]; exact fits_le c, gg ρ _ ex (s.write ha (.lst upd_same (RepL.append (rl.mono ex) (rb.mono ex)))) _ .non⟩
        · rw [if_neg c] at gg
          exact gg.elim
    | _ :: _ :: _, _, gg => exact gg.elim
  | _ => exact gg.elim
/-! ### dict(pairs), dict(d) -/
def pDict2 : Sem := fun ds => match ds with
  | [.cell n] => fun S => match S[n]? with
    | some (.dic _ kvs) => mkD kvs S
    | _ => pDict [.cell n] S
  | ds => pDict ds
theorem prim_dict2 : PrimSem g "dict" pDict2 := by
  obtain ⟨hb, hp⟩ := prim_dict (g := g)
  refine ⟨hb, fun k X W cx => ?_⟩
  obtain ⟨v, r, b1, b2, c, q⟩ := hp k X W cx
  have ev : v = .type "dict" := by
    have := boot_dict.symm.trans b1
    cases this
    rfl
  subst ev
  refine ⟨.type "dict", fun vs H Q => r vs H Q ∨ ∃ (a : Addr) (kvs : List (Key × V)), vs = [.ref a] ∧ Rd H a (.dK kvs) ∧ ∀ p, H p = none → Q (.ref p) (upd H p (.dK kvs)), b1, b2, ?_, fun ρ S H ds vs Q kx s rl gg => ?_⟩
  · intro pins s σ H xs us Q I r' h
    rcases h with h | h
    · exact c pins s σ H xs us Q I r' h
    · exact call_dictD pins s σ H xs us Q I r' h
  · match ds, rl, gg with
    | [.cell n], rl, gg =>
      obtain ⟨v, rfl, rv⟩ := rl_one rl
      cases rv with
      | @cell n a ha =>
      obtain ⟨cv, ec, cr⟩ := s.get ha
      have gg : Go g.B ρ H (match S[n]? with
        | some (.dic _ kvs) => mkD kvs S
        | _ => pDict [.cell n] S : Out Py.D) (KV1 g.B Q) kx := gg
      cases cv with
      | lst _ => rw [ec] at gg; exact .inl (q ρ S H _ _ Q kx s rl gg)
      | ins _ _ => rw [ec] at gg; exact .inl (q ρ S H _ _ Q kx s rl gg)
      | dic lk kvs =>
        rw [ec] at gg
        have gg : Go g.B ρ H (mkD kvs S) (KV1 g.B Q) kx := gg
        have key : ∃ kws, Rd H a (.dK kws) ∧ KRep g.B ρ H kvs kws := by
          cases cr with
          | dic e r => exact ⟨_, .inl e, r⟩
          | lck e r => exact ⟨_, .inr ⟨_, e⟩, r⟩
        obtain ⟨kws, hd, kr⟩ := key
        refine .inr ⟨a, kws, rfl, hd, fun p hp => ?_⟩
        have ex := Ext.allocC s (.dK kws) hp
        refine gg (ρ.more p) _ ex (s.allocC hp (.dic upd_same (kr.mono ex))) _ (.cell ?_)
        rw [← s.len]
        exact more_at ρ p
    | [], rl, gg => exact .inl (q ρ S H _ _ Q kx s rl gg)
    | .non :: ds, rl, gg => exact .inl (q ρ S H _ _ Q kx s rl gg)
    | .bl _ :: ds, rl, gg => exact .inl (q ρ S H _ _ Q kx s rl gg)
    | .int _ :: ds, rl, gg => exact .inl (q ρ S H _ _ Q kx s rl gg)
    | .str _ :: ds, rl, gg => exact .inl (q ρ S H _ _ Q kx s rl gg)
    | .tup _ :: ds, rl, gg => exact .inl (q ρ S H _ _ Q kx s rl gg)
    | .lst _ :: ds, rl, gg => exact .inl (q ρ S H _ _ Q kx s rl gg)
    | .scr _ :: ds, rl, gg => exact .inl (q ρ S H _ _ Q kx s rl gg)
    | .ins _ _ _ :: ds, rl, gg => exact .inl (q ρ S H _ _ Q kx s rl gg)
    | .cell _ :: _ :: _, rl, gg => exact .inl (q ρ S H _ _ Q kx s rl gg)
end Py
-- PyHd
namespace Py
open PySem PySem.Spec PyProof.Rows L2
/-! ### 42. what the head is to tell, beyond defs and names -/
/-- isinstance's answers; what isinstance asks of the own plain classes -/
def xKit (K : PySem.W.Frag) (cls : List Str) : Bool := ((tyB.map Cl.b ++ cls.map Cl.c).all fun t => (clB.map Cl.b ++ cls.map Cl.c).all fun c => decide (PySem.W.kitOne K (clV K t) (clV K c) = some (isC t c))) &&
  cls.all fun c => (He.Fa.cls c).ok K && (decide (PySem.W.findIn K (.ref (He.ga K c)) "__class__" = some (some (.builtin "object.__class__"))) && (decide (PySem.W.specialIn K (.builtin "object.__class__") "__get__" = some (some (.builtin "getset_descriptor.__get__"))) &&
    (decide (PySem.W.takesIn K (.builtin "object.__class__") = some true) && decide (PySem.W.mroIn K (He.ga K c) (.type "object") = some true))))
/-- an own exception class as HandS has it -/
def oexB (K : PySem.W.Frag) (C : Addr) : Bool := (match K.lookup C with
  | some ⟨.type "type", _, .cls cd, sl⟩ => (match cd.mro, sl.toList with
    | .ref C' :: bm, [_, _, _, _, some (.builtin n), _] => C' == C && (n == "ValueError.__new__" && (!cd.hasDel && (cd.hasDict && PySem.HandSPX.refsVE bm)))
    | _, _ => false)
  | _ => false) && (decide (PySem.W.findIn K (.ref C) "__setattr__" = some (some (.builtin "object.__setattr__"))) && (decide (PySem.W.subIn K (.ref C) (.type "BaseException") = some true) && (decide (PySem.W.typeIn K (.ref C) = some (.type "type")) && PySem.W.keepIn K (.ref C))))
theorem oexB_ok {K : PySem.W.Frag} {C : Addr} (h : oexB K C = true) : OexC K C := by
  obtain ⟨h1, h2⟩ := band h
  obtain ⟨h2, h3⟩ := band h2
  obtain ⟨h3, h4⟩ := band h3
  obtain ⟨h4, h5⟩ := band h4
  refine ⟨?_, of_decide_eq_true h2, of_decide_eq_true h3, of_decide_eq_true h4, h5⟩
  split at h1
  · rename_i dd cd sl ho
    split at h1
    · rename_i C' bm k0 k1 k2 k3 n k5 hm hs
      simp only [Bool.and_eq_true, beq_iff_eq, Bool.not_eq_true'] at h1
      obtain ⟨rfl, rfl, hdel, hdict, hb⟩ := h1
      obtain ⟨nm, bs, mro, ns, qn, hd, sn, sub, ab, col, del⟩ := cd
      dsimp only at hm hdel hdict
      subst hm hdel hdict
      have hsl : sl = #[k0, k1, k2, k3, some (.builtin "ValueError.__new__"), k5] := by
        obtain ⟨l⟩ := sl
        have hs : l = _ := hs
        subst hs
        rfl
      subst hsl
      exact ⟨nm, qn, ns, bs, bm, sn, sub, ab, col, dd, k0, k1, k2, k3, k5, ho, hb⟩
    · cases h1
  · cases h1
/-- the class c keeps what its maker is given, by D's __init__ -/
def xExc (K : PySem.W.Frag) (D c : Str) : Bool := oexB K (He.ga K c) && (decide (PySem.W.findIn K (.ref (He.ga K c)) "given" = some none) && (decide (PySem.W.mroIn K (He.ga K c) (.ref (He.ga K D)) = some true) &&
  (decide (PySem.W.ks_superIn K (He.ga K c) (He.ga K D) "__init__" = some (some (.builtin "ValueError.__init__"))) && (decide (PySem.W.subIn K (.ref (He.ga K c)) (.type "ValueError") = some true) &&
  (decide (PySem.W.findIn K (.ref (He.ga K c)) "__init__" = some (some (.ref (He.ma K (He.ga K D) "__init__")))) && (xfB K (He.ga K c) && (He.Fa.glo c).ok K))))))
/-- D's __init__ -/
def xSup (P : Program) (K : PySem.W.Frag) (D : Str) : Bool := (match K.lookup (He.ma K (He.ga K D) "__init__") with
  | some ⟨_, _, .func fd, _⟩ => (match fd.closure, fd.code with
    | [(nm, cc)], .ref cda => decide (nm = ("__class__" : Str)) && ((match K.lookup cc with
      | some ⟨_, _, .cell (some (.ref d)), _⟩ => decide (d = He.ga K D)
      | _ => false) && ((match K.lookup cda with
        | some ⟨_, _, .fields vs, _⟩ => (match (vs[2]? : Option Value) with
          | some (Value.str file _) => ((P.main.file : Str) == file)
          | _ => false)
        | _ => false) && (PySem.W.codeIn K fd.code fd.qualname && (decide (fd.globals = mainGlobals) && (decide (fd.builtins = builtinsNs) && (match fd.defaults with
          | .ref T => (match K.lookup T with
            | some ⟨_, _, .seq its _, _⟩ => its.size == 1
            | _ => false)
          | _ => false))))))
    | _, _ => false)
  | _ => false) && ((PySem.W.clsIn K (He.ga K D)).isSome && (decide (PySem.W.nsIn K mainGlobals "super" = some none) && (decide (PySem.W.nsIn K cStatics "thirdparty.any" = some none) && decide (PySem.W.typeIn K (.ref (He.ma K (He.ga K D) "__init__")) = some (.type "function")))))
abbrev SupW : Type := Option (Arguments × FuncBody × Scope)
def supW (K : PySem.W.Frag) (D : Str) : SupW := match K.lookup (He.ma K (He.ga K D) "__init__") with
  | some ⟨_, _, .func fd, _⟩ => some (fd.params, fd.body, fd.scope)
  | _ => none
/-- what the row's text says of that __init__ -/
def supR (P : Program) (ar : Arguments) (st1 st2 : Stmt) (sc : Scope) : Bool := supB st1 st2 && (decide (sc.kind = .function) && (!sc.isCoroutine && (!sc.isGenerator && ((sc.names.all fun y => !decide (y.2 = .cell) && (!decide (y.2 = .free) || decide (y.1 = ("__class__" : Str)))) && (decide (sc.names.lookup ("self" : Str) = some .local) && (decide (sc.names.lookup ("given" : Str) = some .local) &&
  (decide (sc.names.lookup ("__class__" : Str) = some .free) && (decide (sc.names.lookup ("super" : Str) = some .globalImplicit) && ((match (ar.posonlyargs ++ ar.args).head? with
    | some a => decide (a.arg = ("self" : Str))
    | none => false) && !(P.main.scope.names.lookup ("super" : Str)).isSome)))))))))
theorem sup_facts {P : Program} {K : PySem.W.Frag} {D : Str} {ar : Arguments} {st1 st2 : Stmt} {sc : Scope} (h : xSup P K D = true) (e : supW K D = some (ar, .stmts [st1, st2], sc)) (r : supR P ar st1 st2 sc = true) :
    ∃ (fd : FuncData) (cc cda T : Addr), SupF P K (He.ma K (He.ga K D) "__init__") (He.ga K D) cc cda fd st1 st2 ∧ fd.params = ar ∧ fd.defaults = .ref T ∧ (∃ oc od x n sl, K.lookup T = some ⟨oc, od, .seq #[x] n, sl⟩) ∧ PySem.W.typeIn K (.ref (He.ma K (He.ga K D) "__init__")) = some (.type "function") := by
  obtain ⟨h1, h2⟩ := band h
  obtain ⟨g1, h2⟩ := band h2
  obtain ⟨g2, h2⟩ := band h2
  obtain ⟨g3, g4⟩ := band h2
  obtain ⟨_, r⟩ := band r
  obtain ⟨r1, r⟩ := band r
  obtain ⟨r2, r⟩ := band r
  obtain ⟨r3, r⟩ := band r
  obtain ⟨r4, r⟩ := band r
  obtain ⟨r5, r⟩ := band r
  obtain ⟨r6, r⟩ := band r
  obtain ⟨r7, r⟩ := band r
  obtain ⟨r8, r⟩ := band r
  obtain ⟨r9, r10⟩ := band r
  unfold supW at e
  split at h1
  · rename_i oc od fd osl hlk
    rw [hlk] at e
    have e : (some (fd.params, fd.body, fd.scope) : SupW) = some (ar, .stmts [st1, st2], sc) := e
    simp only [Option.some.injEq, Prod.mk.injEq] at e
    obtain ⟨e1, e2, e3⟩ := e
    subst e1
    subst e3
    split at h1
    · rename_i nm cc cda hclo hcode
      obtain ⟨a1, h1⟩ := band h1
      obtain ⟨a2, h1⟩ := band h1
      obtain ⟨a3, h1⟩ := band h1
      obtain ⟨a4, h1⟩ := band h1
      obtain ⟨a5, h1⟩ := band h1
      obtain ⟨a6, a7⟩ := band h1
      have a1 := of_decide_eq_true a1
      subst a1
      obtain ⟨T, eT, hT⟩ : ∃ T, fd.defaults = .ref T ∧ ∃ oc od x n sl, K.lookup T = some ⟨oc, od, .seq #[x] n, sl⟩ := by
        split at a7
        · rename_i T eT
          split at a7
          · rename_i oc2 od2 its n sl hl
            obtain ⟨l⟩ := its
            match l, eq_of_beq a7 with
            | [x], _ => exact ⟨T, eT, oc2, od2, x, n, sl, hl⟩
          · cases a7
        · cases a7
      refine ⟨fd, cc, cda, T, ?_, rfl, eT, hT, of_decide_eq_true g4⟩
      have nm : ∀ y ∈ fd.scope.names, y.2 ≠ .cell ∧ (y.2 = .free → y.1 = ("__class__" : Str)) := fun y hy => by
        have := List.all_eq_true.mp r4 y hy
        obtain ⟨b1, b2⟩ := band this
        refine ⟨fun z => (by rw [z] at b1; cases b1), fun z => ?_⟩
        rw [z] at b2
        simpa using b2
      refine ⟨⟨oc, od, osl, hlk⟩, e2, hcode, ?_, a4, hclo, ?_, Option.isSome_iff_exists.mp g1, of_decide_eq_true a5, of_decide_eq_true a6, of_decide_eq_true r1, by simpa using r2, by simpa using r3, fun x hx => (nm x hx).1, fun x hx => (nm (x, _) (PySem.mem_of_lookup hx)).2 rfl,
        of_decide_eq_true r5, of_decide_eq_true r6, of_decide_eq_true r7, of_decide_eq_true r8, ?_, of_decide_eq_true g2, of_decide_eq_true g3, by simpa using r10⟩
      · split at a3
        · rename_i c1 c2 vs c3 hl
          split at a3
          · rename_i file tf hv
            exact ⟨c1, c2, vs, c3, file, tf, hl, hv, a3⟩
          · cases a3
        · cases a3
      · split at a2
        · rename_i c1 c2 d c3 hl
          have := of_decide_eq_true a2
          subst this
          exact ⟨c1, c2, c3, hl⟩
        · cases a2
      · split at r9
        · rename_i a ha
          exact ⟨a, ha, of_decide_eq_true r9⟩
        · cases r9
    · cases h1
  · cases h1
/-! ### 43. the hook -/
abbrev AlY : Type := He.AlD × (Bool × SupW)
def obsY (fa : List He.Fa) (fn : List He.DefD) (x : PySem.W.Frag → Bool) (D : Str) (K : PySem.W.Frag) : AlY := (He.obsD fa fn K, x K, supW K D)
/-- the objects told of: what is reached from the module's names, the interpreter's own table; no lists -/
def noL (g : Addr → Option Obj) (a : Addr) : Bool := match g a with
  | some o => !(o.cls == .type "list")
  | none => true
def asY (g : Addr → Option Obj) (n : Nat) : List Addr := (cStatics :: He.asD g n).filter (noL g)
def NoLists (K : PySem.W.Frag) : Prop := ∀ a o, K.lookup a = some o → o.cls ≠ .type "list"
theorem noLists (g : Addr → Option Obj) : ∀ as : List Addr, NoLists (He.frG g (as.filter (noL g)))
  | [], a, o, h => by cases h
  | b :: as, a, o, h => by
    by_cases c : noL g b = true
    · rw [List.filter_cons_of_pos c] at h
      have e := He.frG_at (b :: as.filter (noL g)) h
      unfold He.frG at h
      rw [List.filterMap_cons] at h
      cases gb : g b with
      | none =>
        rw [gb] at h
        exact noLists g as a o h
      | some ob =>
        rw [gb] at h
        have h : ((b, ob) :: (as.filter (noL g)).filterMap fun a => (g a).map fun o => (a, o)).lookup a = some o := h
        rw [List.lookup_cons] at h
        cases ab : a == b with
        | false =>
          rw [ab] at h
          exact noLists g as a o h
        | true =>
          rw [ab] at h
          cases h
          intro z
          unfold noL at c
          rw [gb] at c
          simp [z] at c
    · rw [List.filter_cons_of_neg c] at h
      exact noLists g as a o h
def hookY (n : Nat) (fa : List He.Fa) (fn : List He.DefD) (x : PySem.W.Frag → Bool) (D : Str) (w : SupW) : PySem.W.Hook where
  α := AlY
  obs := fun s => obsY fa fn x D (He.frG s.heap.get? (asY s.heap.get? n))
  val := fun _ => (He.valD fn, true, w)
  says := fun _ h => ∃ K : PySem.W.Frag, K.In h ∧ NoLists K ∧ obsY fa fn x D K = (He.valD fn, true, w)
  of := fun _ _ e => ⟨_, He.frG_in, noLists _ _, e⟩
  keeps := fun _ _ _ ⟨K, hK, c⟩ k => ⟨K, PySem.W.Frag.In.keeps hK k, c⟩
def obY (n : Nat) (fa : List He.Fa) (fn : List He.DefD) (x : PySem.W.Frag → Bool) (D : Str) (g : Addr → Option Obj) : AlY := obsY fa fn x D (He.frG g (asY g n))
theorem obY_eq {n : Nat} {fa : List He.Fa} {fn : List He.DefD} {x : PySem.W.Frag → Bool} {D : Str} {w : SupW} {g : Addr → Option Obj} {s : Shared} (h : ∀ a, g a = s.heap.get? a) : obY n fa fn x D g = (hookY n fa fn x D w).obs s := by
  have e : g = s.heap.get? := funext h
  rw [e] <;> rfl
/-- a list stands in the heap as it is told there -/
theorem sq_frz {K : PySem.W.Frag} {H : Hp} {a : Addr} {xs : List V} (n : NoLists K) (o : Only H) (h : SqL K H a xs) : ∃ ob, H a = some (.frz ob (.lst xs)) := by
  rcases h with h | ⟨ob, its, m, h1, h2, _⟩
  · rcases h with h | h
    · rcases o a with z | ⟨ob, ys, z⟩ <;> rw [h] at z <;> cases z
    · exact h
  · exact absurd h2 (n a ob h1)
theorem saysY {fa : List He.Fa} {fn : List He.DefD} {x : PySem.W.Frag → Bool} {D : Str} {w : SupW} {K : PySem.W.Frag} (h : obsY fa fn x D K = (He.valD fn, true, w)) : He.SaysD fa fn K ∧ x K = true ∧ supW K D = w :=
  ⟨congrArg (fun z : AlY => z.1) h, congrArg (fun z : AlY => z.2.1) h, congrArg (fun z : AlY => z.2.2) h⟩
end Py
-- PyJn
namespace Py
open PySem PySem.Spec PyProof.Rows L2
/-! ### 44. joining -/
variable {g : Gx} {j k : Nat} {f : Sem}
theorem FnSem.mono {nm : Str} {n : Nat} {f : Sem} (h : FnSem g j nm n f) (l : j ≤ k) : FnSem g k nm n f := by
  obtain ⟨fd, ps, h1, h2, h3, h4, F⟩ := h
  exact ⟨fd, ps, h1, h2, h3, h4, F.mono l⟩
theorem KwSem.mono {nm : Str} {n : Nat} {f : Sem} {ks : List Str} {gl : List Nat} (h : KwSem g j nm f n ks gl) (l : j ≤ k) : KwSem g k nm f n ks gl := by
  obtain ⟨fd, ps, h1, h2, h3, h4, F⟩ := h
  exact ⟨fd, ps, h1, h2, h3, h4, F.mono l⟩
section
variable {x q nm : Str} {params : Arguments} {body : List Stmt} {scope : Scope} {fd : FuncData} {N ps ks : List Str} {z : Bool} {b : Sm} {n : Nat} {gl : List Nat}
theorem FnSem.of (G : GOk g) (F : FunD g.B.K x q params body scope [] [] (He.ga g.B.K nm) fd) (hm : g.mg nm = some (.ref (He.ga g.B.K nm))) (sc : C8.scC N ps scope = true) (hc : (chkS N b).ss scope body = true)
    (hb : ∀ (kV doc pm : Value) (an : Option Addr) (cdv ct : Value) (us : List Value), us.length = ps.length → bindArgs (PySem.W.fnOf x q params body scope .none kV doc pm an cdv ct) ⟨us, []⟩ = pure (ps.zip us)) (ok : OkS g k b) : FnSem g (k + 1) nm ps.length (runF z N.length b) :=
  ⟨fd, ps, rfl, hm, F.kp, F.bindsN hb, fn_ok G F sc hc ok⟩
/-- a meaning that fails always is kept by any def -/
theorem FnSem.fails (F : FunD g.B.K x q params body scope [] [] (He.ga g.B.K nm) fd) (hm : g.mg nm = some (.ref (He.ga g.B.K nm)))
    (hb : ∀ (kV doc pm : Value) (an : Option Addr) (cdv ct : Value) (us : List Value), us.length = ps.length → bindArgs (PySem.W.fnOf x q params body scope .none kV doc pm an cdv ct) ⟨us, []⟩ = pure (ps.zip us)) : FnSem g k nm ps.length (fun _ => M.fail) :=
  ⟨fd, ps, rfl, hm, F.kp, F.bindsN hb, ⟨fun vs H Q E ⟨_, _, _, _, _, _, gg⟩ => gg.elim, fun A outer s H args us vs Q E _ _ _ _ ⟨_, _, _, _, _, _, gg⟩ => gg.elim⟩⟩
theorem KwSem.of (G : GOk g) (F : FunD g.B.K x q params body scope [] [] (He.ga g.B.K nm) fd) (hm : g.mg nm = some (.ref (He.ga g.B.K nm))) (sc : C8.scC N ps scope = true) (hc : (chkS N b).ss scope body = true)
    (hb : ∀ (kV doc pm : Value) (an : Option Addr) (cdv ct : Value) (us ws : List Value), us.length = n → ws.length = ks.length → bindArgs (PySem.W.fnOf x q params body scope .none kV doc pm an cdv ct) ⟨us, ks.zip ws⟩ = pure (ps.zip (gl.map fun i => (us ++ ws).getD i .none)))
    (hg : gl.length = ps.length) (ok : OkS g k b) : KwSem g (k + 1) nm (runF z N.length b) n ks gl := by
  refine ⟨fd, ps, hm, F.kp, fun s us ws _ h1 h2 => ?_, hg, fn_ok G F sc hc ok⟩
  obtain ⟨oc, od, dV, kV, doc, pm, an, cdv, ct, osl, rfl, lk, hcd, hD, hK⟩ := F.ex
  rcases hD with ⟨_, rfl⟩ | ⟨e, _⟩
  · exact .of_eq (hb kV doc pm an cdv ct us ws h1 h2)
  · exact absurd rfl e
end
theorem kit_of_x {K : PySem.W.Frag} {cls : List Str} (h : xKit K cls = true) : (∀ t ∈ tyB.map Cl.b ++ cls.map Cl.c, ∀ c ∈ clB.map Cl.b ++ cls.map Cl.c, PySem.W.kitOne K (clV K t) (clV K c) = some (isC t c)) ∧ ∀ c ∈ cls, ClsI K (He.ga K c) := by
  obtain ⟨h1, h2⟩ := band h
  refine ⟨fun t ht c hc => of_decide_eq_true (List.all_eq_true.mp (List.all_eq_true.mp h1 t ht) c hc), fun c hc => ?_⟩
  have z := List.all_eq_true.mp h2 c hc
  obtain ⟨z1, z⟩ := band z
  obtain ⟨z2, z⟩ := band z
  obtain ⟨z3, z⟩ := band z
  obtain ⟨z4, z5⟩ := band z
  exact ⟨He.cls_ok z1, of_decide_eq_true z2, of_decide_eq_true z3, of_decide_eq_true z4, of_decide_eq_true z5⟩
/-- what C's maker keeps, C an own exception -/
theorem exc_of_x {D c : Str} {ar : Arguments} {st1 st2 : Stmt} {sc : Scope} (hk : 2 ≤ k) (hs : xSup g.P g.B.K D = true) (e : supW g.B.K D = some (ar, .stmts [st1, st2], sc)) (r : supR g.P ar st1 st2 sc = true) (hx : xExc g.B.K D c = true) (hm : g.mg c = some (.ref (He.ga g.B.K c)))
    (hb : ∀ (fd : FuncData) (T : Addr) (us : List Value), fd.params = ar → fd.defaults = .ref T → us.length = 2 → ∃ kk : Option (Array Value) → PySem.Sem (List (Str × Value)), bindArgs fd ⟨us, []⟩ = seqItems? (.ref T) >>= kk ∧ ∀ x : Value, kk (some #[x]) = pure ([("self" : Str), ("given" : Str)].zip us)) : ExcSem g k c (fGiven c) ∧ XfC g.B.K (He.ga g.B.K c) ∧ PySem.W.findIn g.B.K (.ref (He.ga g.B.K c)) "given" = some none := by
  obtain ⟨fd, cc, cda, T, F, ep, ed, ⟨oc, od, x, n, sl, hT⟩, tI⟩ := sup_facts hs e r
  obtain ⟨x1, hx⟩ := band hx
  obtain ⟨x2, hx⟩ := band hx
  obtain ⟨x3, hx⟩ := band hx
  obtain ⟨x4, hx⟩ := band hx
  obtain ⟨x5, hx⟩ := band hx
  obtain ⟨x6, hx⟩ := band hx
  obtain ⟨x7, x8⟩ := band hx
  refine ⟨exc_sem hk F (band r).1 ⟨oexB_ok x1, of_decide_eq_true x2, of_decide_eq_true x3, of_decide_eq_true x4, of_decide_eq_true x5⟩ (of_decide_eq_true x6) tI ?_ hm, xfB_ok x7, of_decide_eq_true x2⟩
  intro s us X hl
  rw [List.append_nil] at hl ⊢
  obtain ⟨kk, e1, e2⟩ := hb fd T us ep ed hl
  refine BindsTo.of_looks fun M => ?_
  rw [e1]
  exact looks_items X hT rfl (.of_pure (e2 x))
section
variable {x q c : Str} {params : Arguments} {body : List Stmt} {scope : Scope} {fd : FuncData} {N ps ks : List Str} {z : Bool} {b : Sm} {n : Nat} {gl : List Nat} {fa : Addr}
theorem MkSem.mono (h : MkSem g j c n f) (l : j ≤ k) : MkSem g k c n f := by
  obtain ⟨fa, fd, ps, h1, h2, h3, h4, h5, i, h6, F⟩ := h
  exact ⟨fa, fd, ps, h1, h2, h3, h4, h5, i, Nat.le_trans h6 l, F⟩
theorem MkkSem.mono (h : MkkSem g j c f n ks gl) (l : j ≤ k) : MkkSem g k c f n ks gl := by
  obtain ⟨fa, fd, ps, h1, h3, h4, h5, h7, i, h6, F⟩ := h
  exact ⟨fa, fd, ps, h1, h3, h4, h5, h7, i, Nat.le_trans h6 l, F⟩
theorem EqSem.mono (h : EqSem g j c f) (l : j ≤ k) : EqSem g k c f := by
  obtain ⟨fa, fd, ps, h1, h2, h3, h4, h5, h6, F⟩ := h
  exact ⟨fa, fd, ps, h1, h2, h3, h4, h5, h6, F.mono l⟩
/-- the class c is made by its __init__ -/
theorem MkSem.of (G : GOk g) (hc : c ∈ g.B.cls) (M : Mk g.B.K (He.ga g.B.K c) fa) (F : FunD g.B.K x q params body scope [] [] fa fd) (sc : C8.scC N ps scope = true) (ch : (chkS N b).ss scope body = true)
    (hb : ∀ (kV doc pm : Value) (an : Option Addr) (cdv ct : Value) (us : List Value), us.length = ps.length → bindArgs (PySem.W.fnOf x q params body scope .none kV doc pm an cdv ct) ⟨us, []⟩ = pure (ps.zip us)) (hl : ps.length = n + 1) (ok : OkS g k b) : MkSem g (k + 2) c n (runF z N.length b) :=
  ⟨fa, fd, ps, hc, hl, (G.cl c hc).1, M, F.bindsN hb, k + 1, Nat.le_refl _, fn_ok G F sc ch ok⟩
theorem MkkSem.of (G : GOk g) (hc : c ∈ g.B.cls) (M : Mk g.B.K (He.ga g.B.K c) fa) (F : FunD g.B.K x q params body scope [] [] fa fd) (sc : C8.scC N ps scope = true) (ch : (chkS N b).ss scope body = true)
    (hb : ∀ (kV doc pm : Value) (an : Option Addr) (cdv ct : Value) (us ws : List Value), us.length = n + 1 → ws.length = ks.length → bindArgs (PySem.W.fnOf x q params body scope .none kV doc pm an cdv ct) ⟨us, ks.zip ws⟩ = pure (ps.zip (us.headD .none :: gl.map fun i => (us.tail ++ ws).getD i .none)))
    (hg : gl.length + 1 = ps.length) (ok : OkS g k b) : MkkSem g (k + 2) c (runF z N.length b) n ks gl := by
  refine ⟨fa, fd, ps, hc, (G.cl c hc).1, M, fun s us ws _ h1 h2 => ?_, hg, k + 1, Nat.le_refl _, fn_ok G F sc ch ok⟩
  obtain ⟨oc, od, dV, kV, doc, pm, an, cdv, ct, osl, rfl, lk, hcd, hD, hK⟩ := F.ex
  rcases hD with ⟨_, rfl⟩ | ⟨e, _⟩
  · exact .of_eq (hb kV doc pm an cdv ct us ws h1 h2)
  · exact absurd rfl e
def xNot (K : PySem.W.Frag) (cls : List Str) (c : Str) : Bool := (tyB.map Cl.b ++ cls.map Cl.c).all fun t => PySem.W.notFirst K (He.ga K c) (clV K t)
theorem EqSem.of (G : GOk g) (hc : c ∈ g.B.cls) (M : Meth g.B.K (He.ga g.B.K c) "__eq__" fa) (hn : xNot g.B.K g.B.cls c = true) (F : FunD g.B.K x q params body scope [] [] fa fd) (sc : C8.scC N ps scope = true) (ch : (chkS N b).ss scope body = true)
    (hb : ∀ (kV doc pm : Value) (an : Option Addr) (cdv ct : Value) (us : List Value), us.length = ps.length → bindArgs (PySem.W.fnOf x q params body scope .none kV doc pm an cdv ct) ⟨us, []⟩ = pure (ps.zip us)) (hl : ps.length = 2) (ok : OkS g k b) : EqSem g (k + 1) c (runF z N.length b) :=
  ⟨fa, fd, ps, hc, hl, M.1, M.2, F.bindsN hb, fun t ht => List.all_eq_true.mp hn t ht, fn_ok G F sc ch ok⟩
end
theorem ba' {a b : Bool} (h : (a && b) = true) : a = true ∧ b = true := Bool.and_eq_true_iff.mp h
/-- what may be let out, in any world -/
def CXw (P : Program) : CXT := fun outer H s E u s' => ∃ w, L2.CX P w outer H s E u s'
theorem FnOk.cx {P : Program} {w : World} {K : PySem.W.Frag} {mg : Str → Option Value} {base : Heap} {CX CX' : CXT} {k : Nat} {f : Addr} {fd : FuncData} {ps : List Str} {sp : Sp} (F : FnOk P w K mg base CX k f fd ps sp) (h : ∀ outer H s E u s', CX outer H s E u s' → CX' outer H s E u s') :
    FnOk P w K mg base CX' k f fd ps sp :=
  ⟨F.len, fun A outer s H args us vs Q E hr e0 hb r hsp => codeAny_mono (F.run A outer s H args us vs Q E hr e0 hb r hsp) fun x s' hx => by
    cases x with
    | ok fl => cases fl <;> exact hx
    | error e => exact h _ _ _ _ _ _ hx⟩
theorem CXw.none {P : Program} {H : Hp} {s : Shared} {e : Value} {s' : Shared} (h : CXw P [] H s (fun _ _ _ => False) e s') : False := by
  obtain ⟨_, _, _, _, _, _, _, _, _, _, _, _, _, z⟩ := h
  exact z
/-- the law's def, at the script -/
theorem law_sp {B : Bs} {f : Sem} {H : Hp} {a : Addr} {ns : List Int} (n : NoLists B.K) (ho : Only H) (hs : SqL B.K H a (ns.map V.int)) (hf : ∃ S, f [.scr ns] [] = .ok (.bl true) S) : spOf B f 1 [.ref a] H (fun v _ => v = .bl true) fun _ _ _ => False := by
  obtain ⟨ob, e⟩ := sq_frz n ho hs
  obtain ⟨S, ef⟩ := hf
  have nm : a ∉ (⟨[], []⟩ : Rh) := fun m => by rcases m with m | m <;> cases m
  refine ⟨⟨[], []⟩, [], [.scr ns], ⟨List.nodup_nil, rfl, fun n a c h => (by cases h), fun a h => by cases h⟩, .cons (.scr nm e) .nil, rfl, ?_⟩
  rw [ef]
  exact fun ρ' H' _ _ v r => by cases r; rfl
end Py
-- PyWq
namespace Py
open PySem PySem.Spec PyProof.Rows L2
/-! ### what is wanted of a run -/
/-- nothing; it keeps simp out of what follows -/
structure Tk {α : Type} (k : α → Store → Prop) (kx : Exn → Store → Prop) : Type where
  mk ::
structure Ts (kn : Env → Store → Prop) (kr : D → Env → Store → Prop) (kb kc : Env → Store → Prop) (kx : Exn → Env → Store → Prop) : Type where
  mk ::
@[irreducible] def WM {α : Type} (r : Out α) (k : α → Store → Prop) (kx : Exn → Store → Prop) (_ : Tk k kx := ⟨⟩) : Prop := match r with
  | .ok a S => k a S
  | .exc x S => kx x S
  | .stuck => False
@[irreducible] def WS (r : RS) (kn : Env → Store → Prop) (kr : D → Env → Store → Prop) (kb kc : Env → Store → Prop) (kx : Exn → Env → Store → Prop) (_ : Ts kn kr kb kc kx := ⟨⟩) : Prop := match r with
  | .ok .nx env S => kn env S
  | .ok (.rt d) env S => kr d env S
  | .ok .bk env S => kb env S
  | .ok .ct env S => kc env S
  | .exc x env S => kx x env S
  | .stuck => False
section
variable {α β : Type} {S : Store} {k : α → Store → Prop} {kx : Exn → Store → Prop}
theorem WM_ok {a : α} : WM (.ok a S) k kx = k a S := by unfold WM; rfl
theorem WM_exc {x : Exn} : WM (.exc x S) k kx = kx x S := by unfold WM; rfl
theorem WM_stuck : WM .stuck k kx = False := by unfold WM; rfl
theorem WM_pure {a : α} : WM (M.pure a S) k kx = k a S := by unfold WM; rfl
theorem WM_fail : WM (M.fail S) k kx = False := by unfold WM; rfl
theorem WM_some {a : α} : WM (M.opt (some a) S) k kx = k a S := by unfold WM; rfl
theorem WM_none : WM (M.opt none S) k kx = False := by unfold WM; rfl
theorem WM_bind {m : M β} {f : β → M α} : WM (M.bind m f S) k kx = WM (m S) (fun a S1 => WM (f a S1) k kx) kx := by
  unfold M.bind WM
  cases m S <;> with_unfolding_all rfl
theorem WM_ite {b : Prop} [Decidable b] {m m' : M α} : WM ((if b then m else m') S) k kx = if b then WM (m S) k kx else WM (m' S) k kx := by
  split <;> rfl
theorem WM_ext {r : Out α} {k' : α → Store → Prop} {kx' : Exn → Store → Prop} (h1 : ∀ a S, k a S = k' a S) (h2 : ∀ x S, kx x S = kx' x S) : WM r k kx = WM r k' kx' := by
  unfold WM
  cases r with
  | ok a S => with_unfolding_all exact h1 a S
  | exc x S => with_unfolding_all exact h2 x S
  | stuck => with_unfolding_all rfl
theorem WM_imp {r : Out α} {k' : α → Store → Prop} {kx' : Exn → Store → Prop} (h : WM r k kx) (h1 : ∀ a S, k a S → k' a S) (h2 : ∀ x S, kx x S → kx' x S) : WM r k' kx' := by
  unfold WM at *
  cases r with
  | ok a S => with_unfolding_all exact h1 a S h
  | exc x S => with_unfolding_all exact h2 x S h
  | stuck => with_unfolding_all exact h
/-- a run that only gives -/
def WO (r : Out α) (k : α → Store → Prop) : Prop := WM r k fun _ _ => False
theorem WO.to {r : Out α} {k' : α → Store → Prop} (h : WO r k) (h1 : ∀ a S, k a S → k' a S) : WM r k' kx := WM_imp h h1 fun _ _ z => z.elim
theorem WO.ex {r : Out α} (h : WO r k) : ∃ a S, r = .ok a S ∧ k a S := by
  unfold WO WM at h
  cases r with
  | ok a S => with_unfolding_all exact ⟨a, S, rfl, h⟩
  | exc x S => with_unfolding_all exact h.elim
  | stuck => with_unfolding_all exact h.elim
theorem WO.of {r : Out α} {a : α} {S : Store} (e : r = .ok a S) (h : k a S) : WO r k := by rw [e]; unfold WO; rw [WM_ok]; exact h
theorem WM_nox {m : M α} : WM (M.nox m S) k kx = WM (m S) k fun _ _ => False := by
  unfold M.nox WM
  cases m S <;> with_unfolding_all rfl
theorem WO_pure {a : α} : WO (M.pure a S) k = k a S := by unfold WO; exact WM_pure
theorem WO_ok {a : α} : WO (.ok a S) k = k a S := by unfold WO; exact WM_ok
theorem WM.eq_ok {r : Out α} {a : α} {S1 : Store} (e : r = .ok a S1) (h : k a S1) : WM r k kx := by rw [e, WM_ok]; exact h
end
section
variable {env : Env} {S : Store} {kn kb kc : Env → Store → Prop} {kr : D → Env → Store → Prop} {kx : Exn → Env → Store → Prop}
theorem WS_oknx : WS (.ok .nx env S) kn kr kb kc kx = kn env S := by unfold WS; with_unfolding_all rfl
theorem WS_okrt {d : D} : WS (.ok (.rt d) env S) kn kr kb kc kx = kr d env S := by unfold WS; with_unfolding_all rfl
theorem WS_okbk : WS (.ok .bk env S) kn kr kb kc kx = kb env S := by unfold WS; with_unfolding_all rfl
theorem WS_okct : WS (.ok .ct env S) kn kr kb kc kx = kc env S := by unfold WS; with_unfolding_all rfl
theorem WS_ex0 {x : Exn} : WS (.exc x env S) kn kr kb kc kx = kx x env S := by unfold WS; with_unfolding_all rfl
theorem WS_stuck0 : WS .stuck kn kr kb kc kx = False := by unfold WS; with_unfolding_all rfl
theorem WS_nil : WS (exS .nil env S) kn kr kb kc kx = kn env S := WS_oknx
theorem WS_seq {a b : MS} : WS (a.seq b env S) kn kr kb kc kx = WS (a env S) (fun e s => WS (b e s) kn kr kb kc kx) kr kb kc kx := by
  unfold MS.seq
  cases a env S with
  | ok f e s => cases f <;> with_unfolding_all rfl
  | exc x e s => with_unfolding_all rfl
  | stuck => with_unfolding_all rfl
theorem WS_cons {s r : Sm} : WS (exS (.cons s r) env S) kn kr kb kc kx = WS (exS s env S) (fun e s => WS (exS r e s) kn kr kb kc kx) kr kb kc kx := WS_seq
theorem WS_ev {α : Type} {m : Env → M α} {f : α → MS} : WS (MS.ev m f env S) kn kr kb kc kx = WM (m env S) (fun a s => WS (f a env s) kn kr kb kc kx) (fun x s => kx x env s) := by
  unfold MS.ev
  cases m env S <;> with_unfolding_all rfl
theorem WS_nx : WS (MS.nx env S) kn kr kb kc kx = kn env S := WS_oknx
theorem WS_doc : WS (exS .doc env S) kn kr kb kc kx = kn env S := WS_oknx
theorem WS_pss : WS (exS .pss env S) kn kr kb kc kx = kn env S := WS_oknx
theorem WS_retn : WS (exS .retn env S) kn kr kb kc kx = kr .non env S := WS_okrt
theorem WS_brk : WS (exS .brk env S) kn kr kb kc kx = kb env S := WS_okbk
theorem WS_cnt : WS (exS .cnt env S) kn kr kb kc kx = kc env S := WS_okct
theorem WS_set {i : Nat} {e : E} : WS (exS (.set (.nm i) e) env S) kn kr kb kc kx = WM ((evR e).v env S) (fun d s => kn (env.set i (some d)) s) (fun x s => kx x env s) := by
  rw [exS, WS_ev]
  with_unfolding_all rfl
theorem WS_sett {is : List Nat} {e : E} : WS (exS (.set (.tp is) e) env S) kn kr kb kc kx = WM ((evR e).v env S) (fun d s => WO (seqOf d s) fun xs s1 => xs.length = is.length ∧ kn (setAll env is xs) s1) (fun x s => kx x env s) := by
  rw [exS, WS_ev]
  refine WM_ext (fun d s => ?_) fun _ _ => rfl
  show WS (match bindT (.tp is) d env s with
    | .ok env' S' => .ok .nx env' S'
    | _ => .stuck) _ _ _ _ _ = _
  show WS (match M.bind (seqOf d) (fun xs => if xs.length = is.length then M.pure ((is.zip xs).foldl (fun en p => en.set p.1 (some p.2)) env) else M.fail) s with
    | .ok env' S' => .ok .nx env' S'
    | _ => .stuck) _ _ _ _ _ = _
  unfold M.bind WO
  cases seqOf d s with
  | ok xs s1 =>
    rw [WM_ok]
    show WS (match (if xs.length = is.length then M.pure ((is.zip xs).foldl (fun en p => en.set p.1 (some p.2)) env) else M.fail) s1 with
    | .ok env' S' => .ok .nx env' S'
    | _ => .stuck) _ _ _ _ _ = (xs.length = is.length ∧ kn (setAll env is xs) s1)
    by_cases h : xs.length = is.length
    · rw [if_pos h]
      simp only [h, true_and]
      with_unfolding_all rfl
    · rw [if_neg h]
      simp only [h, false_and]
      with_unfolding_all rfl
  | exc x s1 => with_unfolding_all rfl
  | stuck => with_unfolding_all rfl
theorem WS_par {is : List Nat} {es : E} : WS (exS (.par is es) env S) kn kr kb kc kx = WM ((evR es).a env S) (fun ds s => ds.length = is.length ∧ kn (setAll env is ds) s) (fun x s => kx x env s) := by
  rw [exS]
  unfold MS.ev
  have h1 : (evR es).a env S = evA es env S := rfl
  rw [h1]
  generalize evA es env S = r
  cases r with
  | ok ds s =>
    simp only [WM_ok]
    by_cases h : ds.length = is.length
    · rw [if_pos h]; simp only [h, true_and]; with_unfolding_all rfl
    · rw [if_neg h]; simp only [h, false_and]; with_unfolding_all rfl
  | exc x s => with_unfolding_all rfl
  | stuck => with_unfolding_all rfl
theorem WS_put {o i e : E} : WS (exS (.put o i e) env S) kn kr kb kc kx = WM ((evR e).v env S) (fun v s => WM ((evR o).v env s) (fun x s1 => WM ((evR i).v env s1) (fun y s2 => WM (putO x y v s2) (fun _ s3 => kn env s3) (fun x s => kx x env s)) (fun x s => kx x env s)) (fun x s => kx x env s)) (fun x s => kx x env s) := by
  rw [exS, WS_ev]
  refine WM_ext (fun v s => ?_) fun _ _ => rfl
  rw [WS_ev]
  refine WM_ext (fun x s1 => ?_) fun _ _ => rfl
  rw [WS_ev]
  refine WM_ext (fun y s2 => ?_) fun _ _ => rfl
  rw [WS_ev]
  with_unfolding_all rfl
theorem WS_ex {e : E} : WS (exS (.ex e) env S) kn kr kb kc kx = WM ((evR e).v env S) (fun _ s => kn env s) (fun x s => kx x env s) := by
  rw [exS, WS_ev]
  with_unfolding_all rfl
theorem WS_ite {c : E} {a b : Sm} : WS (exS (.ite c a b) env S) kn kr kb kc kx = WM ((evR c).t env S) (fun q s => if q = true then WS (exS a env s) kn kr kb kc kx else WS (exS b env s) kn kr kb kc kx) (fun x s => kx x env s) := by
  rw [exS, WS_ev]
  refine WM_ext (fun q s => ?_) fun _ _ => rfl
  cases q <;> with_unfolding_all rfl
theorem WS_for {tg : Tg} {it : E} {b : Sm} : WS (exS (.for tg it b) env S) kn kr kb kc kx = WM ((evR it).s env S) (fun r s1 => WS (forW r tg (exS b) r.items env s1) kn kr kb kc kx) (fun x s => kx x env s) := by
  rw [exS, WS_ev]
theorem WS_sat {o e : E} {f : Str} : WS (exS (.sat o f e) env S) kn kr kb kc kx = WM ((evR e).v env S) (fun v s => WM ((evR o).v env s) (fun x s1 => WM (setO x f v s1) (fun _ s3 => kn env s3) (fun x s => kx x env s)) (fun x s => kx x env s)) (fun x s => kx x env s) := by
  rw [exS, WS_ev]
  refine WM_ext (fun v s => ?_) fun _ _ => rfl
  rw [WS_ev]
  refine WM_ext (fun x s1 => ?_) fun _ _ => rfl
  rw [WS_ev]
  with_unfolding_all rfl
theorem WS_whl {c : E} {b : Sm} : WS (exS (.whl c b) env S) kn kr kb kc kx = WS (whlW (tst c) (exS b) env S) kn kr kb kc kx := by rw [exS]
theorem WS_ret {e : E} : WS (exS (.ret e) env S) kn kr kb kc kx = WM ((evR e).v env S) (fun d s => kr d env s) (fun x s => kx x env s) := by
  rw [exS, WS_ev]
  with_unfolding_all rfl
theorem WS_rs {c : Str} {f : List D → M Exn} {es : E} : WS (exS (.rs c f es) env S) kn kr kb kc kx = WM ((evR es).a env S) (fun ds s => WM (f ds s) (fun x s1 => kx x env s1) (fun x s => kx x env s)) (fun x s => kx x env s) := by
  rw [exS, WS_ev]
  refine WM_ext (fun ds s => ?_) fun _ _ => rfl
  rw [WS_ev]
  with_unfolding_all rfl
theorem WS_try {b : Sm} {hs : List Hd} : WS (exS (.try b hs) env S) kn kr kb kc kx = WS (exS b env S) kn kr kb kc (fun x e s => WS (hdl hs x e s) kn kr kb kc kx) := by
  show WS (match exS b env S with
    | .exc x env' S' => hdl hs x env' S'
    | r => r) _ _ _ _ _ = _
  cases exS b env S with
  | ok f e s => cases f <;> with_unfolding_all rfl
  | exc x e s => with_unfolding_all rfl
  | stuck => with_unfolding_all rfl
theorem WS_imp {r : RS} {kn' kb' kc' : Env → Store → Prop} {kr' : D → Env → Store → Prop} {kx' : Exn → Env → Store → Prop} (h : WS r kn kr kb kc kx) (h1 : ∀ e s, kn e s → kn' e s) (h2 : ∀ d e s, kr d e s → kr' d e s) (h3 : ∀ e s, kb e s → kb' e s) (h4 : ∀ e s, kc e s → kc' e s) (h5 : ∀ x e s, kx x e s → kx' x e s) : WS r kn' kr' kb' kc' kx' := by
  cases r with
  | ok f e s =>
    cases f with
    | nx => with_unfolding_all exact h1 _ _ h
    | rt d => with_unfolding_all exact h2 _ _ _ h
    | bk => with_unfolding_all exact h3 _ _ h
    | ct => with_unfolding_all exact h4 _ _ h
  | exc x e s => with_unfolding_all exact h5 _ _ _ h
  | stuck => with_unfolding_all exact h
end
/-! ### a def -/
theorem WM_runF {z : Bool} {n : Nat} {b : Sm} {ds : List D} {S : Store} {k : D → Store → Prop} {kx : Exn → Store → Prop} :
    WM (runF z n b ds S) k kx = WS (exS b (env0 n ds) S) (fun _ s => WM (retF z S .non s) k kx) (fun d _ s => WM (retF z S d s) k kx) (fun _ _ => False) (fun _ _ => False) (fun x _ s => WM (excF z S x s) k kx) := by
  unfold runF
  cases exS b (env0 n ds) S with
  | ok f e s => cases f <;> with_unfolding_all rfl
  | exc x e s => with_unfolding_all rfl
  | stuck => with_unfolding_all rfl
theorem WM_ret0 {S S' : Store} {d : D} {k : D → Store → Prop} {kx : Exn → Store → Prop} : WM (retF false S d S') k kx = k d S' := WM_ok
theorem WM_exc0 {S S' : Store} {x : Exn} {k : D → Store → Prop} {kx : Exn → Store → Prop} : WM (excF false S x S') k kx = kx x S' := WM_exc
theorem WM_ret1 {S S' : Store} {d d' : D} {k : D → Store → Prop} {kx : Exn → Store → Prop} (h : Kept S S') (e : fzD S' S.length 1000 d = some d') (q : k d' (S'.take S.length)) : WM (retF true S d S') k kx := by
  unfold retF
  rw [if_pos rfl, e]
  show WM (@ite _ (Kept S S') (Classical.propDecidable _) _ _) k kx
  rw [if_pos h, WM_ok]
  exact q
theorem WM_exc1 {S S' : Store} {x : Exn} {fs : List (Str × D)} {k : D → Store → Prop} {kx : Exn → Store → Prop} (h : Kept S S') (e : fzF S' S.length x.fs = some fs) (q : kx ⟨x.cls, fs⟩ (S'.take S.length)) : WM (excF true S x S') k kx := by
  unfold excF
  rw [if_pos rfl, e]
  show WM (@ite _ (Kept S S') (Classical.propDecidable _) _ _) k kx
  rw [if_pos h, WM_exc]
  exact q
theorem Kept.rfl' {S : Store} : Kept S S := fun j _ => .inl rfl
/-- nothing of the store has changed -/
theorem WM_ret2 {S : Store} {d d' : D} {k : D → Store → Prop} {kx : Exn → Store → Prop} (e : fzD S S.length 1000 d = some d') (q : k d' S) : WM (retF true S d S) k kx := WM_ret1 Kept.rfl' e (by rw [List.take_length]; exact q)
theorem WM_exc2 {S : Store} {x : Exn} {fs : List (Str × D)} {k : D → Store → Prop} {kx : Exn → Store → Prop} (e : fzF S S.length x.fs = some fs) (q : kx ⟨x.cls, fs⟩ S) : WM (excF true S x S) k kx := WM_exc1 Kept.rfl' e (by rw [List.take_length]; exact q)
/-! ### plain data: no mutable object, so deep and long at most -/
mutual
def fu : D → Nat
  | .tup xs => fuL xs + 1
  | .lst xs => fuL xs + 1
  | .ins _ _ ds => fuL ds + 1
  | _ => 1
def fuL : List D → Nat
  | [] => 1
  | d :: ds => max (fu d) (fuL ds) + 1
end
mutual
def noC : D → Bool
  | .tup xs => noCL xs
  | .lst xs => noCL xs
  | .ins _ _ ds => noCL ds
  | .cell _ => false
  | _ => true
def noCL : List D → Bool
  | [] => true
  | d :: ds => noC d && noCL ds
end
mutual
theorem fzD_of (S : Store) (n : Nat) : ∀ (m : Nat) (d : D), fu d ≤ m → noC d = true → fzD S n m d = some d
  | 0, d, h, _ => by cases d <;> simp [fu] at h
  | m + 1, .non, _, _ => rfl
  | m + 1, .bl _, _, _ => rfl
  | m + 1, .int _, _, _ => rfl
  | m + 1, .str _, _, _ => rfl
  | m + 1, .scr _, _, _ => rfl
  | m + 1, .cell _, _, c => by cases c
  | m + 1, .tup xs, h, c => by
    show (fzL S n m xs).map D.tup = _
    rw [fzL_of S n m xs (by simp only [fu] at h; omega) c]
    rfl
  | m + 1, .lst xs, h, c => by
    show (fzL S n m xs).map D.lst = _
    rw [fzL_of S n m xs (by simp only [fu] at h; omega) c]
    rfl
  | m + 1, .ins q ns xs, h, c => by
    show (fzL S n m xs).map (D.ins q ns) = _
    rw [fzL_of S n m xs (by simp only [fu] at h; omega) c]
    rfl
theorem fzL_of (S : Store) (n : Nat) : ∀ (m : Nat) (ds : List D), fuL ds ≤ m → noCL ds = true → fzL S n m ds = some ds
  | 0, ds, h, _ => by cases ds <;> simp [fuL] at h
  | m + 1, [], _, _ => rfl
  | m + 1, d :: ds, h, c => by
    show (match fzD S n m d, fzL S n m ds with
      | some p, some ps => some (p :: ps)
      | _, _ => none) = _
    simp only [fuL] at h
    simp only [noCL, Bool.and_eq_true] at c
    rw [fzD_of S n m d (by omega) c.1, fzL_of S n m ds (by omega) c.2]
end
/-- plain data, not deep or long -/
def Pl (m : Nat) (d : D) : Prop := fu d ≤ m ∧ noC d = true
theorem Pl.fz {m m' : Nat} {d : D} (h : Pl m d) (l : m ≤ m') (S : Store) (n : Nat) : fzD S n m' d = some d := fzD_of S n m' d (Nat.le_trans h.1 l) h.2
theorem fuL_le {m : Nat} : ∀ {ds : List D}, (∀ d ∈ ds, fu d ≤ m) → fuL ds ≤ m + ds.length + 1
  | [], _ => by simp [fuL]
  | d :: ds, h => by
    have := fuL_le fun x q => h x (List.mem_cons_of_mem _ q)
    have := h d List.mem_cons_self
    simp only [fuL, List.length_cons]
    omega
theorem noCL_of : ∀ {ds : List D}, (∀ d ∈ ds, noC d = true) → noCL ds = true
  | [], _ => rfl
  | d :: ds, h => by
    simp only [noCL, Bool.and_eq_true]
    exact ⟨h d List.mem_cons_self, noCL_of fun x q => h x (List.mem_cons_of_mem _ q)⟩
theorem Pl.tup {m m' : Nat} {ds : List D} (h : ∀ d ∈ ds, Pl m d) (l : m + ds.length + 2 ≤ m') : Pl m' (.tup ds) :=
  ⟨by have := fuL_le (m := m) fun d q => (h d q).1; simp only [fu]; omega, noCL_of fun d q => (h d q).2⟩
theorem Pl.lst {m m' : Nat} {ds : List D} (h : ∀ d ∈ ds, Pl m d) (l : m + ds.length + 2 ≤ m') : Pl m' (.lst ds) :=
  ⟨by have := fuL_le (m := m) fun d q => (h d q).1; simp only [fu]; omega, noCL_of fun d q => (h d q).2⟩
theorem Pl.str {m : Nat} (x : Str) : Pl (m + 1) (.str x) := ⟨by simp [fu], rfl⟩
theorem Pl.int {m : Nat} (x : Int) : Pl (m + 1) (.int x) := ⟨by simp [fu], rfl⟩
theorem Pl.bl {m : Nat} (x : Bool) : Pl (m + 1) (.bl x) := ⟨by simp [fu], rfl⟩
theorem Pl.non {m : Nat} : Pl (m + 1) .non := ⟨by simp [fu], rfl⟩
theorem Pl.mono {m m' : Nat} {d : D} (h : Pl m d) (l : m ≤ m') : Pl m' d := ⟨Nat.le_trans h.1 l, h.2⟩
/-! ### running -/
section
variable {i j k : Int} {b b' m : Bool} {c d : D} {xs ys : List D} {ns : List Int} {n i' : Nat} {z z' : Str} {zs : List Str} {lo hi : Option Int} {S : Store} {kvs : List (Key × D)} {T : String} {cs : List Cl} {kd : Wk} {f : Sem}
theorem xcmp_lt : opCmp .lt (.int i) (.int j) = M.pure (.bl (decide (i < j))) := (rfl)
theorem xcmp_le : opCmp .le (.int i) (.int j) = M.pure (.bl (decide (i ≤ j))) := (rfl)
theorem xcmp_gt : opCmp .gt (.int i) (.int j) = M.pure (.bl (decide (j < i))) := (rfl)
theorem xcmp_ge : opCmp .ge (.int i) (.int j) = M.pure (.bl (decide (j ≤ i))) := (rfl)
theorem xcmp_is : opCmp .is c d = M.opt ((isD c d).map .bl) := (rfl)
theorem xcmp_isin : opCmp .isin c d = M.bind (isInD c d) fun k => M.pure (.bl k) := (rfl)
theorem xcmp_notin : opCmp .notin c d = M.bind (isInD c d) fun k => M.pure (.bl (!k)) := (rfl)
theorem xbin_addi : opBin .add (.int i) (.int j) = M.pure (.int (i + j)) := (rfl)
theorem xbin_sub : opBin .sub (.int i) (.int j) = M.pure (.int (i - j)) := (rfl)
theorem xsl_tup : opSl (.tup xs) lo hi = M.pure (.tup (Py.cutD xs lo hi)) := (rfl)
theorem xix_tup : opIx (.tup xs) (.int i) = M.opt (atI xs i) := (rfl)
theorem xix_lst : opIx (.lst xs) (.int i) = M.opt (atI xs i) := (rfl)
theorem xix_scr : opIx (.scr ns) (.int i) = M.opt ((atI ns i).map .int) := (rfl)
theorem xin_str : isInD (.str ⟨#[n]⟩) (.str z) = M.pure (decide (n ∈ z.cps.toList)) := (rfl)
theorem xpLen_tup : pLen [.tup xs] = M.pure (.int xs.length) := (rfl)
theorem xpLen_lst : pLen [.lst xs] = M.pure (.int xs.length) := (rfl)
theorem xpInt : pInt [.int i] = M.pure (.int i) := (rfl)
theorem xpAbs : pAbs [.int i] = M.pure (.int (if i < 0 then -i else i)) := (rfl)
theorem xpMax2 : pMax2 [.int i, .int j] = M.pure (.int (if j > i then j else i)) := (rfl)
theorem xpMin2 : pMin2 [.int i, .int j] = M.pure (.int (if j < i then j else i)) := (rfl)
theorem xpTuple : pTuple [.lst xs] = M.pure (.tup xs) := (rfl)
theorem xpTuplet : pTuple [.tup xs] = M.pure (.tup xs) := (rfl)
theorem xcmp_eq : opCmp .eq c d S = M.opt ((eqD S c d).map .bl) S := (rfl)
theorem xcmp_ne : opCmp .ne c d S = M.opt ((eqD S c d).map fun k => .bl (!k)) S := (rfl)
theorem xsl_lst : opSl (.lst xs) lo hi = M.pure (.lst (Py.cutD xs lo hi)) := (rfl)
theorem xsl_scr : opSl (.scr ns) lo hi = M.pure (.lst (Py.cutD (ns.map .int) lo hi)) := (rfl)
theorem xin_lst : isInD d (.lst xs) S = M.opt (inD S d xs) S := (rfl)
theorem xpAll : pAll [.lst xs] = M.opt ((blsOf xs).map fun bs => .bl (bs.all id)) := (rfl)
theorem xpAny : pAny [.lst xs] = M.opt ((blsOf xs).map fun bs => .bl (bs.any id)) := (rfl)
theorem xpSum : pSum [.lst xs] = M.opt ((intsOf xs).map fun ns => .int ns.sum) := (rfl)
theorem xpLen_cell : pLen [.cell n] S = (match S[n]? with | some (.lst xs) => .ok (.int xs.length) S | some (.dic false kvs) => .ok (.int kvs.length) S | _ => .stuck) := (rfl)
theorem xpLen_scr : pLen [.scr ns] = M.pure (.int ((ns.map D.int).length : Nat)) := (rfl)
theorem xix_celli : opIx (.cell n) (.int i) S = (match S[n]? with | some (.lst xs) => M.opt (atI xs i) S | some (.dic _ kvs) => M.opt (valD kvs (.inl i)) S | _ => .stuck) := (rfl)
theorem xix_cells : opIx (.cell n) (.str z) S = (match S[n]? with | some (.lst xs) => .stuck | some (.dic _ kvs) => M.opt (valD kvs (.inr z)) S | _ => .stuck) := (rfl)
theorem xsrc_scr : srcOf (.scr ns) = M.pure ⟨ns.map .int, []⟩ := (rfl)
theorem xsrc_str : srcOf (.str z) = M.pure ⟨z.cps.toList.map fun c => .str ⟨#[c]⟩, []⟩ := (rfl)
theorem xsrc_cell : srcOf (.cell n) S = (match S[n]? with | some (.lst xs) => .ok ⟨xs, [(n, xs)]⟩ S | _ => .stuck) := (rfl)
theorem xsrc_lst : srcOf (.lst xs) = M.pure ⟨xs, []⟩ := (rfl)
theorem xsrc_tup : srcOf (.tup xs) = M.pure ⟨xs, []⟩ := (rfl)
theorem xseq_tup : seqOf (.tup xs) = M.pure xs := (rfl)
theorem xseq_lst : seqOf (.lst xs) = M.pure xs := (rfl)
theorem xseq_scr : seqOf (.scr ns) = M.pure (ns.map .int) := (rfl)
theorem xseq_cell : seqOf (.cell n) S = (match S[n]? with | some (.lst xs) => .ok xs S | _ => .stuck) := (rfl)
theorem xpList_ : pList m [d] = M.bind (seqOf d) fun xs => mkL m xs := (rfl)
theorem xmkL_t : mkL true xs S = .ok (.cell S.length) (S ++ [.lst xs]) := (rfl)
theorem xmkL_f : mkL false xs = M.pure (.lst xs) := (rfl)
theorem xmkD_ : mkD kvs S = .ok (.cell S.length) (S ++ [.dic false kvs]) := (rfl)
theorem xtru_non : tru .non = M.pure false := (rfl)
theorem xtru_bl : tru (.bl b) = M.pure b := (rfl)
theorem xtru_int : tru (.int i) = M.pure (i != 0) := (rfl)
theorem xtru_tup : tru (.tup xs) = M.pure (!xs.isEmpty) := (rfl)
theorem xtru_lst : tru (.lst xs) = M.pure (!xs.isEmpty) := (rfl)
theorem xboolOf_ : boolOf (.bl b) = M.pure b := (rfl)
theorem xintOf_ : intOf (.int i) = M.pure i := (rfl)
theorem xoptI_ : optI (.int i) = M.pure (some i) := (rfl)
theorem xapp_cell : qAppend (.cell n) [d] S = (match S[n]? with | some (.lst xs) => if fits (xs.length + 1) then .ok .non (S.set n (.lst (xs ++ [d]))) else .stuck | _ => .stuck) := (rfl)
theorem xrev_tup : opRev (.tup xs) = M.pure (.tup xs.reverse) := (rfl)
theorem xrev_lst : opRev (.lst xs) = M.pure (.lst xs.reverse) := (rfl)
theorem xisi_ : isiD S d cs = (tyD S d).map fun t => cs.any (isC t) := (rfl)
theorem xty_non : tyD S .non = some (.b "NoneType") := (rfl)
theorem xty_bl : tyD S (.bl b) = some (.b "bool") := (rfl)
theorem xty_int : tyD S (.int i) = some (.b "int") := (rfl)
theorem xty_str : tyD S (.str z) = some (.b "str") := (rfl)
theorem xty_tup : tyD S (.tup xs) = some (.b "tuple") := (rfl)
theorem xty_lst : tyD S (.lst xs) = some (.b "list") := (rfl)
theorem xty_scr : tyD S (.scr ns) = some (.b "list") := (rfl)
theorem xty_ins : tyD S (.ins z zs xs) = some (.c z) := (rfl)
theorem xty_cell : tyD S (.cell n) = (match S[n]? with | some (.lst _) => some (.b "list") | some (.dic _ _) => some (.b "dict") | some (.ins c _) => some (.c c) | none => none) := (rfl)
theorem xisTy_ : isTy T d S = (match tyD S d with | some (.b n) => if n = T then (match d with | .cell k => (match S[k]? with | some (.dic true _) => .stuck | _ => .ok () S) | _ => .ok () S) else .stuck | _ => .stuck) := (rfl)
theorem xput_cell : putO (.cell n) c d S = (match (S[n]?).bind fun q => putC q c d with | some q => .ok () (S.set n q) | none => .stuck) := (rfl)
theorem xputC_lst : putC (.lst xs) (.int i) d = (ixN xs.length i).map fun j => .lst (xs.set j d) := (rfl)
theorem xputC_dic : putC (.dic false kvs) c d = (keyOf c).bind fun y => if fits (kvs.length + 1) then some (.dic false (putD kvs y d)) else none := (rfl)
theorem xenum_tup : enumS (.tup xs) = M.pure ⟨enumL 0 xs, []⟩ := (rfl)
theorem xenum_lst : enumS (.lst xs) = M.pure ⟨enumL 0 xs, []⟩ := (rfl)
theorem xenum_cell : enumS (.cell n) = M.bind (srcOf (.cell n)) fun s => M.pure ⟨enumL 0 s.items, s.cells⟩ := (rfl)
theorem xzip_tt : zipS (.tup xs) (.tup ys) = M.pure ⟨zipL xs ys, []⟩ := (rfl)
theorem xzip_ll : zipS (.lst xs) (.lst ys) = M.pure ⟨zipL xs ys, []⟩ := (rfl)
theorem xlock_ : lockD kd (.cell n) S = (match S[n]? with | some (.dic false kvs) => .ok (walkS kd kvs) (S.set n (.dic true kvs)) | some (.dic true kvs) => .ok (walkS kd kvs) S | _ => .stuck) := (rfl)
theorem xwalk_k : walkS .keys kvs = keysS kvs := (rfl)
theorem xwalk_v : walkS .values kvs = ⟨kvs.map (·.2), []⟩ := (rfl)
theorem xwalk_i : walkS .items kvs = ⟨kvs.map fun kv => .tup [keyD kv.1, kv.2], []⟩ := (rfl)
theorem xsetO_ : setO (.cell n) z d S = (match S[n]? with | some (.ins c fs) => if fs.length < 1000 then .ok () (S.set n (.ins c (setF z d fs))) else .stuck | _ => .stuck) := (rfl)
theorem xin_tup : isInD d (.tup xs) = M.opt (match vOf d, vsOf xs with | some u, some us => some (inV u us) | _, _ => none) := (rfl)
theorem xkeyOf_i : keyOf (.int i) = some (.inl i) := (rfl)
theorem xkeyOf_s : keyOf (.str z) = some (.inr z) := (rfl)
theorem xis_non : isD d .non = some (match d with | .non => true | _ => false) := (rfl)
theorem xis_bl : isD (.bl b) (.bl b') = some (decide (b = b')) := (rfl)
theorem xdisM1 : disM [.str z, d] = mkD [(.inr z, d)] := (rfl)
theorem xlit_lst : litOf (.lst xs) = M.pure xs := (rfl)
theorem xlit_cell : litOf (.cell n) S = (match S[n]? with | some (.lst xs) => .ok xs S | _ => .stuck) := (rfl)
theorem xaddL_ : addL m c d = M.bind (litOf c) fun xs => M.bind (litOf d) fun ys => if fits (xs.length + ys.length) then mkL m (xs ++ ys) else M.fail := (rfl)
theorem xget_ : qGet (.cell n) [c, d] S = (match S[n]?, keyOf c with | some (.dic _ kvs), some k => .ok ((valD kvs k).getD d) S | _, _ => .stuck) := (rfl)
theorem xsetd_ : qSetd (.cell n) [c, d] S = (match S[n]?, keyOf c with | some (.dic false kvs), some k => if fits (kvs.length + 1) then (match valD kvs k with | some v => .ok v S | none => .ok d (S.set n (.dic false (putD kvs k d)))) else .stuck | _, _ => .stuck) := (rfl)
theorem xext_lst : qExtend (.cell n) [.lst ys] S = (match S[n]? with | some (.lst xs) => if fits (xs.length + ys.length) then .ok .non (S.set n (.lst (xs ++ ys))) else .stuck | _ => .stuck) := (rfl)
theorem xpDict2c : pDict2 [.cell n] S = (match S[n]? with | some (.dic _ kvs) => mkD kvs S | _ => pDict [.cell n] S) := (rfl)
theorem xpTuplec : pTuple [.cell n] = M.bind (seqOf (.cell n)) fun xs => M.pure (.tup xs) := (rfl)
theorem xeqm_ins : eqM z f (.ins z' zs xs) d S = if z' = z ∧ (tyD S d).isSome = true then (match f [.ins z' zs xs, d] S with | .ok (.bl b) S' => .ok (.bl b) S' | _ => .stuck) else .stuck := (rfl)
theorem xeqm_tup : eqM z f (.tup xs) d S = opCmp .eq (.tup xs) d S := (rfl)
theorem xisin_ : isInD d (.cell n) S = (match S[n]? with | some (.lst xs) => M.opt (inD S d xs) S | some (.dic _ kvs) => (match keyOf d with | some k => .ok ((valD kvs k).isSome) S | none => .stuck) | _ => .stuck) := (rfl)
theorem xisC_NoneType_NoneType : isC (.b "NoneType") (.b "NoneType") = true := by decide
theorem xisC_NoneType_bool : isC (.b "NoneType") (.b "bool") = false := by decide
theorem xisC_NoneType_int : isC (.b "NoneType") (.b "int") = false := by decide
theorem xisC_NoneType_str : isC (.b "NoneType") (.b "str") = false := by decide
theorem xisC_NoneType_tuple : isC (.b "NoneType") (.b "tuple") = false := by decide
theorem xisC_NoneType_list : isC (.b "NoneType") (.b "list") = false := by decide
theorem xisC_NoneType_dict : isC (.b "NoneType") (.b "dict") = false := by decide
theorem xisC_bool_NoneType : isC (.b "bool") (.b "NoneType") = false := by decide
theorem xisC_bool_bool : isC (.b "bool") (.b "bool") = true := by decide
theorem xisC_bool_int : isC (.b "bool") (.b "int") = true := by decide
theorem xisC_bool_str : isC (.b "bool") (.b "str") = false := by decide
theorem xisC_bool_tuple : isC (.b "bool") (.b "tuple") = false := by decide
theorem xisC_bool_list : isC (.b "bool") (.b "list") = false := by decide
theorem xisC_bool_dict : isC (.b "bool") (.b "dict") = false := by decide
theorem xisC_int_NoneType : isC (.b "int") (.b "NoneType") = false := by decide
theorem xisC_int_bool : isC (.b "int") (.b "bool") = false := by decide
theorem xisC_int_int : isC (.b "int") (.b "int") = true := by decide
theorem xisC_int_str : isC (.b "int") (.b "str") = false := by decide
theorem xisC_int_tuple : isC (.b "int") (.b "tuple") = false := by decide
theorem xisC_int_list : isC (.b "int") (.b "list") = false := by decide
theorem xisC_int_dict : isC (.b "int") (.b "dict") = false := by decide
theorem xisC_str_NoneType : isC (.b "str") (.b "NoneType") = false := by decide
theorem xisC_str_bool : isC (.b "str") (.b "bool") = false := by decide
theorem xisC_str_int : isC (.b "str") (.b "int") = false := by decide
theorem xisC_str_str : isC (.b "str") (.b "str") = true := by decide
theorem xisC_str_tuple : isC (.b "str") (.b "tuple") = false := by decide
theorem xisC_str_list : isC (.b "str") (.b "list") = false := by decide
theorem xisC_str_dict : isC (.b "str") (.b "dict") = false := by decide
theorem xisC_tuple_NoneType : isC (.b "tuple") (.b "NoneType") = false := by decide
theorem xisC_tuple_bool : isC (.b "tuple") (.b "bool") = false := by decide
theorem xisC_tuple_int : isC (.b "tuple") (.b "int") = false := by decide
theorem xisC_tuple_str : isC (.b "tuple") (.b "str") = false := by decide
theorem xisC_tuple_tuple : isC (.b "tuple") (.b "tuple") = true := by decide
theorem xisC_tuple_list : isC (.b "tuple") (.b "list") = false := by decide
theorem xisC_tuple_dict : isC (.b "tuple") (.b "dict") = false := by decide
theorem xisC_list_NoneType : isC (.b "list") (.b "NoneType") = false := by decide
theorem xisC_list_bool : isC (.b "list") (.b "bool") = false := by decide
theorem xisC_list_int : isC (.b "list") (.b "int") = false := by decide
theorem xisC_list_str : isC (.b "list") (.b "str") = false := by decide
theorem xisC_list_tuple : isC (.b "list") (.b "tuple") = false := by decide
theorem xisC_list_list : isC (.b "list") (.b "list") = true := by decide
theorem xisC_list_dict : isC (.b "list") (.b "dict") = false := by decide
theorem xisC_dict_NoneType : isC (.b "dict") (.b "NoneType") = false := by decide
theorem xisC_dict_bool : isC (.b "dict") (.b "bool") = false := by decide
theorem xisC_dict_int : isC (.b "dict") (.b "int") = false := by decide
theorem xisC_dict_str : isC (.b "dict") (.b "str") = false := by decide
theorem xisC_dict_tuple : isC (.b "dict") (.b "tuple") = false := by decide
theorem xisC_dict_list : isC (.b "dict") (.b "list") = false := by decide
theorem xisC_dict_dict : isC (.b "dict") (.b "dict") = true := by decide
theorem xisC_bc : isC (.b T) (.c z) = false := (rfl)
theorem xisC_cb : isC (.c z) (.b T) = false := (rfl)
theorem xisC_cc : isC (.c z) (.c z') = decide (z = z') := (rfl)
end
section
variable {env : Env} {S : Store} {i n : Nat} {d : D} {x T : String} {s : Str} {m z : Bool} {a b c e e' : E} {op : Bop} {op' p q : Cop} {f : Sem} {h : D → Sem} {ks : List Str} {g : List Nat} {cs : List Cl} {kd : Wk}
theorem xv_var {k : D → Store → Prop} {kx : Exn → Store → Prop} : WM ((evR (E.var i)).v env S) k kx = WM ((M.opt ((env[i]?).bind id)) S) k kx := (rfl)
theorem xt_var {k : Bool → Store → Prop} {kx : Exn → Store → Prop} : WM ((evR (E.var i)).t env S) k kx = WM ((M.bind (M.opt ((env[i]?).bind id)) tru) S) k kx := (rfl)
theorem xo_var {k : Option Int → Store → Prop} {kx : Exn → Store → Prop} : WM ((evR (E.var i)).o env S) k kx = WM ((M.bind (M.opt ((env[i]?).bind id)) optI) S) k kx := (rfl)
theorem xs_var {k : Src → Store → Prop} {kx : Exn → Store → Prop} : WM ((evR (E.var i)).s env S) k kx = WM ((M.bind (M.opt ((env[i]?).bind id)) srcOf) S) k kx := (rfl)
theorem xv_con {k : D → Store → Prop} {kx : Exn → Store → Prop} : WM ((evR (E.con d)).v env S) k kx = WM ((M.pure d) S) k kx := (rfl)
theorem xt_con {k : Bool → Store → Prop} {kx : Exn → Store → Prop} : WM ((evR (E.con d)).t env S) k kx = WM ((M.bind (M.pure d) tru) S) k kx := (rfl)
theorem xo_con {k : Option Int → Store → Prop} {kx : Exn → Store → Prop} : WM ((evR (E.con d)).o env S) k kx = WM ((M.bind (M.pure d) optI) S) k kx := (rfl)
theorem xs_con {k : Src → Store → Prop} {kx : Exn → Store → Prop} : WM ((evR (E.con d)).s env S) k kx = WM ((M.bind (M.pure d) srcOf) S) k kx := (rfl)
theorem xv_glob {k : D → Store → Prop} {kx : Exn → Store → Prop} : WM ((evR (E.glob x d)).v env S) k kx = WM ((M.pure d) S) k kx := (rfl)
theorem xt_glob {k : Bool → Store → Prop} {kx : Exn → Store → Prop} : WM ((evR (E.glob x d)).t env S) k kx = WM ((M.bind (M.pure d) tru) S) k kx := (rfl)
theorem xo_glob {k : Option Int → Store → Prop} {kx : Exn → Store → Prop} : WM ((evR (E.glob x d)).o env S) k kx = WM ((M.bind (M.pure d) optI) S) k kx := (rfl)
theorem xs_glob {k : Src → Store → Prop} {kx : Exn → Store → Prop} : WM ((evR (E.glob x d)).s env S) k kx = WM ((M.bind (M.pure d) srcOf) S) k kx := (rfl)
theorem xv_tup {k : D → Store → Prop} {kx : Exn → Store → Prop} : WM ((evR (E.tup e)).v env S) k kx = WM ((M.bind ((evR e).a env) fun xs => if fits xs.length then M.pure (.tup xs) else M.fail) S) k kx := (rfl)
theorem xt_tup {k : Bool → Store → Prop} {kx : Exn → Store → Prop} : WM ((evR (E.tup e)).t env S) k kx = WM ((M.bind (M.bind ((evR e).a env) fun xs => if fits xs.length then M.pure (.tup xs) else M.fail) tru) S) k kx := (rfl)
theorem xo_tup {k : Option Int → Store → Prop} {kx : Exn → Store → Prop} : WM ((evR (E.tup e)).o env S) k kx = WM ((M.bind (M.bind ((evR e).a env) fun xs => if fits xs.length then M.pure (.tup xs) else M.fail) optI) S) k kx := (rfl)
theorem xs_tup {k : Src → Store → Prop} {kx : Exn → Store → Prop} : WM ((evR (E.tup e)).s env S) k kx = WM ((M.bind (M.bind ((evR e).a env) fun xs => if fits xs.length then M.pure (.tup xs) else M.fail) srcOf) S) k kx := (rfl)
theorem xv_lst {k : D → Store → Prop} {kx : Exn → Store → Prop} : WM ((evR (E.lst m e)).v env S) k kx = WM ((M.bind ((evR e).a env) fun xs => if fits xs.length then mkL m xs else M.fail) S) k kx := (rfl)
theorem xt_lst {k : Bool → Store → Prop} {kx : Exn → Store → Prop} : WM ((evR (E.lst m e)).t env S) k kx = WM ((M.bind (M.bind ((evR e).a env) fun xs => if fits xs.length then mkL m xs else M.fail) tru) S) k kx := (rfl)
theorem xo_lst {k : Option Int → Store → Prop} {kx : Exn → Store → Prop} : WM ((evR (E.lst m e)).o env S) k kx = WM ((M.bind (M.bind ((evR e).a env) fun xs => if fits xs.length then mkL m xs else M.fail) optI) S) k kx := (rfl)
theorem xs_lst {k : Src → Store → Prop} {kx : Exn → Store → Prop} : WM ((evR (E.lst m e)).s env S) k kx = WM ((M.bind (M.bind ((evR e).a env) fun xs => if fits xs.length then mkL m xs else M.fail) srcOf) S) k kx := (rfl)
theorem xv_edic {k : D → Store → Prop} {kx : Exn → Store → Prop} : WM ((evR (E.edic)).v env S) k kx = WM ((mkD []) S) k kx := (rfl)
theorem xt_edic {k : Bool → Store → Prop} {kx : Exn → Store → Prop} : WM ((evR (E.edic)).t env S) k kx = WM ((M.bind (mkD []) tru) S) k kx := (rfl)
theorem xo_edic {k : Option Int → Store → Prop} {kx : Exn → Store → Prop} : WM ((evR (E.edic)).o env S) k kx = WM ((M.bind (mkD []) optI) S) k kx := (rfl)
theorem xs_edic {k : Src → Store → Prop} {kx : Exn → Store → Prop} : WM ((evR (E.edic)).s env S) k kx = WM ((M.bind (mkD []) srcOf) S) k kx := (rfl)
theorem xv_bin {k : D → Store → Prop} {kx : Exn → Store → Prop} : WM ((evR (E.bin op a b)).v env S) k kx = WM ((M.bind ((evR a).v env) fun x => M.bind ((evR b).v env) fun y => opBin op x y) S) k kx := (rfl)
theorem xt_bin {k : Bool → Store → Prop} {kx : Exn → Store → Prop} : WM ((evR (E.bin op a b)).t env S) k kx = WM ((M.bind (M.bind ((evR a).v env) fun x => M.bind ((evR b).v env) fun y => opBin op x y) tru) S) k kx := (rfl)
theorem xo_bin {k : Option Int → Store → Prop} {kx : Exn → Store → Prop} : WM ((evR (E.bin op a b)).o env S) k kx = WM ((M.bind (M.bind ((evR a).v env) fun x => M.bind ((evR b).v env) fun y => opBin op x y) optI) S) k kx := (rfl)
theorem xs_bin {k : Src → Store → Prop} {kx : Exn → Store → Prop} : WM ((evR (E.bin op a b)).s env S) k kx = WM ((M.bind (M.bind ((evR a).v env) fun x => M.bind ((evR b).v env) fun y => opBin op x y) srcOf) S) k kx := (rfl)
theorem xv_cmp {k : D → Store → Prop} {kx : Exn → Store → Prop} : WM ((evR (E.cmp op' a b)).v env S) k kx = WM ((M.bind ((evR a).v env) fun x => M.bind ((evR b).v env) fun y => opCmp op' x y) S) k kx := (rfl)
theorem xt_cmp {k : Bool → Store → Prop} {kx : Exn → Store → Prop} : WM ((evR (E.cmp op' a b)).t env S) k kx = WM ((M.bind (M.bind ((evR a).v env) fun x => M.bind ((evR b).v env) fun y => opCmp op' x y) tru) S) k kx := (rfl)
theorem xo_cmp {k : Option Int → Store → Prop} {kx : Exn → Store → Prop} : WM ((evR (E.cmp op' a b)).o env S) k kx = WM ((M.bind (M.bind ((evR a).v env) fun x => M.bind ((evR b).v env) fun y => opCmp op' x y) optI) S) k kx := (rfl)
theorem xs_cmp {k : Src → Store → Prop} {kx : Exn → Store → Prop} : WM ((evR (E.cmp op' a b)).s env S) k kx = WM ((M.bind (M.bind ((evR a).v env) fun x => M.bind ((evR b).v env) fun y => opCmp op' x y) srcOf) S) k kx := (rfl)
theorem xv_chain {k : D → Store → Prop} {kx : Exn → Store → Prop} : WM ((evR (E.chain p q a b c)).v env S) k kx = WM ((M.bind ((evR a).v env) fun x => M.bind ((evR b).v env) fun y => M.bind (opCmp p x y) fun r => M.bind (boolOf r) fun k => if k then M.bind ((evR c).v env) fun z => opCmp q y z else M.pure (.bl false)) S) k kx := (rfl)
theorem xt_chain {k : Bool → Store → Prop} {kx : Exn → Store → Prop} : WM ((evR (E.chain p q a b c)).t env S) k kx = WM ((M.bind (M.bind ((evR a).v env) fun x => M.bind ((evR b).v env) fun y => M.bind (opCmp p x y) fun r => M.bind (boolOf r) fun k => if k then M.bind ((evR c).v env) fun z => opCmp q y z else M.pure (.bl false)) tru) S) k kx := (rfl)
theorem xo_chain {k : Option Int → Store → Prop} {kx : Exn → Store → Prop} : WM ((evR (E.chain p q a b c)).o env S) k kx = WM ((M.bind (M.bind ((evR a).v env) fun x => M.bind ((evR b).v env) fun y => M.bind (opCmp p x y) fun r => M.bind (boolOf r) fun k => if k then M.bind ((evR c).v env) fun z => opCmp q y z else M.pure (.bl false)) optI) S) k kx := (rfl)
theorem xs_chain {k : Src → Store → Prop} {kx : Exn → Store → Prop} : WM ((evR (E.chain p q a b c)).s env S) k kx = WM ((M.bind (M.bind ((evR a).v env) fun x => M.bind ((evR b).v env) fun y => M.bind (opCmp p x y) fun r => M.bind (boolOf r) fun k => if k then M.bind ((evR c).v env) fun z => opCmp q y z else M.pure (.bl false)) srcOf) S) k kx := (rfl)
theorem xv_neg {k : D → Store → Prop} {kx : Exn → Store → Prop} : WM ((evR (E.neg a)).v env S) k kx = WM ((M.bind ((evR a).v env) fun x => M.bind (intOf x) fun i => M.pure (.int (-i))) S) k kx := (rfl)
theorem xt_neg {k : Bool → Store → Prop} {kx : Exn → Store → Prop} : WM ((evR (E.neg a)).t env S) k kx = WM ((M.bind (M.bind ((evR a).v env) fun x => M.bind (intOf x) fun i => M.pure (.int (-i))) tru) S) k kx := (rfl)
theorem xo_neg {k : Option Int → Store → Prop} {kx : Exn → Store → Prop} : WM ((evR (E.neg a)).o env S) k kx = WM ((M.bind (M.bind ((evR a).v env) fun x => M.bind (intOf x) fun i => M.pure (.int (-i))) optI) S) k kx := (rfl)
theorem xs_neg {k : Src → Store → Prop} {kx : Exn → Store → Prop} : WM ((evR (E.neg a)).s env S) k kx = WM ((M.bind (M.bind ((evR a).v env) fun x => M.bind (intOf x) fun i => M.pure (.int (-i))) srcOf) S) k kx := (rfl)
theorem xv_ix {k : D → Store → Prop} {kx : Exn → Store → Prop} : WM ((evR (E.ix a b)).v env S) k kx = WM ((M.bind ((evR a).v env) fun x => M.bind ((evR b).v env) fun y => opIx x y) S) k kx := (rfl)
theorem xt_ix {k : Bool → Store → Prop} {kx : Exn → Store → Prop} : WM ((evR (E.ix a b)).t env S) k kx = WM ((M.bind (M.bind ((evR a).v env) fun x => M.bind ((evR b).v env) fun y => opIx x y) tru) S) k kx := (rfl)
theorem xo_ix {k : Option Int → Store → Prop} {kx : Exn → Store → Prop} : WM ((evR (E.ix a b)).o env S) k kx = WM ((M.bind (M.bind ((evR a).v env) fun x => M.bind ((evR b).v env) fun y => opIx x y) optI) S) k kx := (rfl)
theorem xs_ix {k : Src → Store → Prop} {kx : Exn → Store → Prop} : WM ((evR (E.ix a b)).s env S) k kx = WM ((M.bind (M.bind ((evR a).v env) fun x => M.bind ((evR b).v env) fun y => opIx x y) srcOf) S) k kx := (rfl)
theorem xv_sl {k : D → Store → Prop} {kx : Exn → Store → Prop} : WM ((evR (E.sl a b c)).v env S) k kx = WM ((M.bind ((evR a).v env) fun x => M.bind ((evR b).o env) fun l => M.bind ((evR c).o env) fun u => opSl x l u) S) k kx := (rfl)
theorem xt_sl {k : Bool → Store → Prop} {kx : Exn → Store → Prop} : WM ((evR (E.sl a b c)).t env S) k kx = WM ((M.bind (M.bind ((evR a).v env) fun x => M.bind ((evR b).o env) fun l => M.bind ((evR c).o env) fun u => opSl x l u) tru) S) k kx := (rfl)
theorem xo_sl {k : Option Int → Store → Prop} {kx : Exn → Store → Prop} : WM ((evR (E.sl a b c)).o env S) k kx = WM ((M.bind (M.bind ((evR a).v env) fun x => M.bind ((evR b).o env) fun l => M.bind ((evR c).o env) fun u => opSl x l u) optI) S) k kx := (rfl)
theorem xs_sl {k : Src → Store → Prop} {kx : Exn → Store → Prop} : WM ((evR (E.sl a b c)).s env S) k kx = WM ((M.bind (M.bind ((evR a).v env) fun x => M.bind ((evR b).o env) fun l => M.bind ((evR c).o env) fun u => opSl x l u) srcOf) S) k kx := (rfl)
theorem xv_rev {k : D → Store → Prop} {kx : Exn → Store → Prop} : WM ((evR (E.rev a)).v env S) k kx = WM ((M.bind ((evR a).v env) fun x => opRev x) S) k kx := (rfl)
theorem xt_rev {k : Bool → Store → Prop} {kx : Exn → Store → Prop} : WM ((evR (E.rev a)).t env S) k kx = WM ((M.bind (M.bind ((evR a).v env) fun x => opRev x) tru) S) k kx := (rfl)
theorem xo_rev {k : Option Int → Store → Prop} {kx : Exn → Store → Prop} : WM ((evR (E.rev a)).o env S) k kx = WM ((M.bind (M.bind ((evR a).v env) fun x => opRev x) optI) S) k kx := (rfl)
theorem xs_rev {k : Src → Store → Prop} {kx : Exn → Store → Prop} : WM ((evR (E.rev a)).s env S) k kx = WM ((M.bind (M.bind ((evR a).v env) fun x => opRev x) srcOf) S) k kx := (rfl)
theorem xv_call {k : D → Store → Prop} {kx : Exn → Store → Prop} : WM ((evR (E.call x n f e)).v env S) k kx = WM ((M.bind ((evR e).a env) fun xs => if xs.length = n then f xs else M.fail) S) k kx := (rfl)
theorem xt_call {k : Bool → Store → Prop} {kx : Exn → Store → Prop} : WM ((evR (E.call x n f e)).t env S) k kx = WM ((M.bind (M.bind ((evR e).a env) fun xs => if xs.length = n then f xs else M.fail) tru) S) k kx := (rfl)
theorem xo_call {k : Option Int → Store → Prop} {kx : Exn → Store → Prop} : WM ((evR (E.call x n f e)).o env S) k kx = WM ((M.bind (M.bind ((evR e).a env) fun xs => if xs.length = n then f xs else M.fail) optI) S) k kx := (rfl)
theorem xs_call {k : Src → Store → Prop} {kx : Exn → Store → Prop} : WM ((evR (E.call x n f e)).s env S) k kx = WM ((M.bind (M.bind ((evR e).a env) fun xs => if xs.length = n then f xs else M.fail) srcOf) S) k kx := (rfl)
theorem xv_kall {k : D → Store → Prop} {kx : Exn → Store → Prop} : WM ((evR (E.kall x f n ks g e e')).v env S) k kx = WM ((M.bind ((evR e).a env) fun xs => M.bind ((evR e').a env) fun ys => if xs.length = n ∧ ys.length = ks.length then M.bind (M.opt ((g.map fun i => (xs ++ ys)[i]?).mapM id)) fun zs => f zs else M.fail) S) k kx := (rfl)
theorem xt_kall {k : Bool → Store → Prop} {kx : Exn → Store → Prop} : WM ((evR (E.kall x f n ks g e e')).t env S) k kx = WM ((M.bind (M.bind ((evR e).a env) fun xs => M.bind ((evR e').a env) fun ys => if xs.length = n ∧ ys.length = ks.length then M.bind (M.opt ((g.map fun i => (xs ++ ys)[i]?).mapM id)) fun zs => f zs else M.fail) tru) S) k kx := (rfl)
theorem xo_kall {k : Option Int → Store → Prop} {kx : Exn → Store → Prop} : WM ((evR (E.kall x f n ks g e e')).o env S) k kx = WM ((M.bind (M.bind ((evR e).a env) fun xs => M.bind ((evR e').a env) fun ys => if xs.length = n ∧ ys.length = ks.length then M.bind (M.opt ((g.map fun i => (xs ++ ys)[i]?).mapM id)) fun zs => f zs else M.fail) optI) S) k kx := (rfl)
theorem xs_kall {k : Src → Store → Prop} {kx : Exn → Store → Prop} : WM ((evR (E.kall x f n ks g e e')).s env S) k kx = WM ((M.bind (M.bind ((evR e).a env) fun xs => M.bind ((evR e').a env) fun ys => if xs.length = n ∧ ys.length = ks.length then M.bind (M.opt ((g.map fun i => (xs ++ ys)[i]?).mapM id)) fun zs => f zs else M.fail) srcOf) S) k kx := (rfl)
theorem xv_prim {k : D → Store → Prop} {kx : Exn → Store → Prop} : WM ((evR (E.prim x f e)).v env S) k kx = WM ((M.bind ((evR e).a env) fun xs => f xs) S) k kx := (rfl)
theorem xt_prim {k : Bool → Store → Prop} {kx : Exn → Store → Prop} : WM ((evR (E.prim x f e)).t env S) k kx = WM ((M.bind (M.bind ((evR e).a env) fun xs => f xs) tru) S) k kx := (rfl)
theorem xo_prim {k : Option Int → Store → Prop} {kx : Exn → Store → Prop} : WM ((evR (E.prim x f e)).o env S) k kx = WM ((M.bind (M.bind ((evR e).a env) fun xs => f xs) optI) S) k kx := (rfl)
theorem xs_prim {k : Src → Store → Prop} {kx : Exn → Store → Prop} : WM ((evR (E.prim x f e)).s env S) k kx = WM ((M.bind (M.bind ((evR e).a env) fun xs => f xs) srcOf) S) k kx := (rfl)
theorem xv_rng1 {k : D → Store → Prop} {kx : Exn → Store → Prop} : WM ((evR (E.rng1 a)).v env S) k kx = WM ((M.bind ((evR a).v env) fun x => M.bind (intOf x) fun i => rngI 0 i) S) k kx := (rfl)
theorem xt_rng1 {k : Bool → Store → Prop} {kx : Exn → Store → Prop} : WM ((evR (E.rng1 a)).t env S) k kx = WM ((M.bind (M.bind ((evR a).v env) fun x => M.bind (intOf x) fun i => rngI 0 i) tru) S) k kx := (rfl)
theorem xo_rng1 {k : Option Int → Store → Prop} {kx : Exn → Store → Prop} : WM ((evR (E.rng1 a)).o env S) k kx = WM ((M.bind (M.bind ((evR a).v env) fun x => M.bind (intOf x) fun i => rngI 0 i) optI) S) k kx := (rfl)
theorem xs_rng1 {k : Src → Store → Prop} {kx : Exn → Store → Prop} : WM ((evR (E.rng1 a)).s env S) k kx = WM ((M.bind (M.bind ((evR a).v env) fun x => M.bind (intOf x) fun i => rngI 0 i) srcOf) S) k kx := (rfl)
theorem xv_rng2 {k : D → Store → Prop} {kx : Exn → Store → Prop} : WM ((evR (E.rng2 a b)).v env S) k kx = WM ((M.bind ((evR a).v env) fun x => M.bind ((evR b).v env) fun y => M.bind (intOf x) fun i => M.bind (intOf y) fun j => rngI i j) S) k kx := (rfl)
theorem xt_rng2 {k : Bool → Store → Prop} {kx : Exn → Store → Prop} : WM ((evR (E.rng2 a b)).t env S) k kx = WM ((M.bind (M.bind ((evR a).v env) fun x => M.bind ((evR b).v env) fun y => M.bind (intOf x) fun i => M.bind (intOf y) fun j => rngI i j) tru) S) k kx := (rfl)
theorem xo_rng2 {k : Option Int → Store → Prop} {kx : Exn → Store → Prop} : WM ((evR (E.rng2 a b)).o env S) k kx = WM ((M.bind (M.bind ((evR a).v env) fun x => M.bind ((evR b).v env) fun y => M.bind (intOf x) fun i => M.bind (intOf y) fun j => rngI i j) optI) S) k kx := (rfl)
theorem xs_rng2 {k : Src → Store → Prop} {kx : Exn → Store → Prop} : WM ((evR (E.rng2 a b)).s env S) k kx = WM ((M.bind (M.bind ((evR a).v env) fun x => M.bind ((evR b).v env) fun y => M.bind (intOf x) fun i => M.bind (intOf y) fun j => rngI i j) srcOf) S) k kx := (rfl)
theorem xv_meth {k : D → Store → Prop} {kx : Exn → Store → Prop} : WM ((evR (E.meth x T h a e)).v env S) k kx = WM ((M.bind ((evR a).v env) fun x => M.bind (isTy T x) fun _ => M.bind ((evR e).a env) fun xs => h x xs) S) k kx := (rfl)
theorem xt_meth {k : Bool → Store → Prop} {kx : Exn → Store → Prop} : WM ((evR (E.meth x T h a e)).t env S) k kx = WM ((M.bind (M.bind ((evR a).v env) fun x => M.bind (isTy T x) fun _ => M.bind ((evR e).a env) fun xs => h x xs) tru) S) k kx := (rfl)
theorem xo_meth {k : Option Int → Store → Prop} {kx : Exn → Store → Prop} : WM ((evR (E.meth x T h a e)).o env S) k kx = WM ((M.bind (M.bind ((evR a).v env) fun x => M.bind (isTy T x) fun _ => M.bind ((evR e).a env) fun xs => h x xs) optI) S) k kx := (rfl)
theorem xs_meth {k : Src → Store → Prop} {kx : Exn → Store → Prop} : WM ((evR (E.meth x T h a e)).s env S) k kx = WM ((M.bind (M.bind ((evR a).v env) fun x => M.bind (isTy T x) fun _ => M.bind ((evR e).a env) fun xs => h x xs) srcOf) S) k kx := (rfl)
theorem xo_no {k : Option Int → Store → Prop} {kx : Exn → Store → Prop} : WM ((evR E.no).o env S) k kx = WM ((M.pure none) S) k kx := (rfl)
theorem xt_no {k : Bool → Store → Prop} {kx : Exn → Store → Prop} : WM ((evR E.no).t env S) k kx = WM ((M.pure true) S) k kx := (rfl)
theorem xa_nil {k : List D → Store → Prop} {kx : Exn → Store → Prop} : WM ((evR E.nil).a env S) k kx = WM ((M.pure []) S) k kx := (rfl)
theorem xa_cons {k : List D → Store → Prop} {kx : Exn → Store → Prop} : WM ((evR (E.cons e e')).a env S) k kx = WM ((M.bind ((evR e).v env) fun x => M.bind ((evR e').a env) fun xs => M.pure (x :: xs)) S) k kx := (rfl)
theorem xv_not {k : D → Store → Prop} {kx : Exn → Store → Prop} : WM ((evR (E.not a)).v env S) k kx = WM ((M.bind ((evR a).v env) fun x => M.bind (boolOf x) fun k => M.pure (.bl (!k))) S) k kx := (rfl)
theorem xt_not {k : Bool → Store → Prop} {kx : Exn → Store → Prop} : WM ((evR (E.not a)).t env S) k kx = WM ((M.bind ((evR a).t env) fun k => M.pure (!k)) S) k kx := (rfl)
theorem xv_and {k : D → Store → Prop} {kx : Exn → Store → Prop} : WM ((evR (E.and a b)).v env S) k kx = WM ((M.bind ((evR a).v env) fun x => M.bind (boolOf x) fun k => if k then (evR b).v env else M.pure (.bl false)) S) k kx := (rfl)
theorem xt_and {k : Bool → Store → Prop} {kx : Exn → Store → Prop} : WM ((evR (E.and a b)).t env S) k kx = WM ((M.bind ((evR a).t env) fun k => if k then (evR b).t env else M.pure false) S) k kx := (rfl)
theorem xv_or {k : D → Store → Prop} {kx : Exn → Store → Prop} : WM ((evR (E.or a b)).v env S) k kx = WM ((M.bind ((evR a).v env) fun x => M.bind (boolOf x) fun k => if k then M.pure (.bl true) else (evR b).v env) S) k kx := (rfl)
theorem xt_or {k : Bool → Store → Prop} {kx : Exn → Store → Prop} : WM ((evR (E.or a b)).t env S) k kx = WM ((M.bind ((evR a).t env) fun k => if k then M.pure true else (evR b).t env) S) k kx := (rfl)
theorem xv_ite {k : D → Store → Prop} {kx : Exn → Store → Prop} : WM ((evR (E.ite a b c)).v env S) k kx = WM ((M.bind ((evR a).t env) fun k => if k then (evR b).v env else (evR c).v env) S) k kx := (rfl)
theorem xv_attr {k : D → Store → Prop} {kx : Exn → Store → Prop} : WM ((evR (E.attr a s)).v env S) k kx = WM ((M.bind ((evR a).v env) fun x => match x with | .ins _ ns ds => M.opt ((ns.zip ds).lookup s) | .cell n => fun S => (match S[n]? with | some (.ins _ fs) => M.opt (fs.lookup s) S | _ => .stuck) | _ => M.fail) S) k kx := (rfl)
theorem xt_attr {k : Bool → Store → Prop} {kx : Exn → Store → Prop} : WM ((evR (E.attr a s)).t env S) k kx = WM ((M.bind (M.bind ((evR a).v env) fun x => match x with | .ins _ ns ds => M.opt ((ns.zip ds).lookup s) | .cell n => fun S => (match S[n]? with | some (.ins _ fs) => M.opt (fs.lookup s) S | _ => .stuck) | _ => M.fail) tru) S) k kx := (rfl)
theorem xo_attr {k : Option Int → Store → Prop} {kx : Exn → Store → Prop} : WM ((evR (E.attr a s)).o env S) k kx = WM ((M.bind (M.bind ((evR a).v env) fun x => match x with | .ins _ ns ds => M.opt ((ns.zip ds).lookup s) | .cell n => fun S => (match S[n]? with | some (.ins _ fs) => M.opt (fs.lookup s) S | _ => .stuck) | _ => M.fail) optI) S) k kx := (rfl)
theorem xs_attr {k : Src → Store → Prop} {kx : Exn → Store → Prop} : WM ((evR (E.attr a s)).s env S) k kx = WM ((M.bind (M.bind ((evR a).v env) fun x => match x with | .ins _ ns ds => M.opt ((ns.zip ds).lookup s) | .cell n => fun S => (match S[n]? with | some (.ins _ fs) => M.opt (fs.lookup s) S | _ => .stuck) | _ => M.fail) srcOf) S) k kx := (rfl)
theorem xv_mk {k : D → Store → Prop} {kx : Exn → Store → Prop} : WM ((evR (E.mk s m n f e)).v env S) k kx = WM ((M.bind ((evR e).a env) fun xs => if xs.length = n then makeD s m f xs else M.fail) S) k kx := (rfl)
theorem xt_mk {k : Bool → Store → Prop} {kx : Exn → Store → Prop} : WM ((evR (E.mk s m n f e)).t env S) k kx = WM ((M.bind (M.bind ((evR e).a env) fun xs => if xs.length = n then makeD s m f xs else M.fail) tru) S) k kx := (rfl)
theorem xo_mk {k : Option Int → Store → Prop} {kx : Exn → Store → Prop} : WM ((evR (E.mk s m n f e)).o env S) k kx = WM ((M.bind (M.bind ((evR e).a env) fun xs => if xs.length = n then makeD s m f xs else M.fail) optI) S) k kx := (rfl)
theorem xs_mk {k : Src → Store → Prop} {kx : Exn → Store → Prop} : WM ((evR (E.mk s m n f e)).s env S) k kx = WM ((M.bind (M.bind ((evR e).a env) fun xs => if xs.length = n then makeD s m f xs else M.fail) srcOf) S) k kx := (rfl)
theorem xv_mkk {k : D → Store → Prop} {kx : Exn → Store → Prop} : WM ((evR (E.mkk s m f n ks g e e')).v env S) k kx = WM ((M.bind ((evR e).a env) fun xs => M.bind ((evR e').a env) fun ys => if xs.length = n ∧ ys.length = ks.length then M.bind (M.opt ((g.map fun i => (xs ++ ys)[i]?).mapM id)) fun zs => makeD s m f zs else M.fail) S) k kx := (rfl)
theorem xt_mkk {k : Bool → Store → Prop} {kx : Exn → Store → Prop} : WM ((evR (E.mkk s m f n ks g e e')).t env S) k kx = WM ((M.bind (M.bind ((evR e).a env) fun xs => M.bind ((evR e').a env) fun ys => if xs.length = n ∧ ys.length = ks.length then M.bind (M.opt ((g.map fun i => (xs ++ ys)[i]?).mapM id)) fun zs => makeD s m f zs else M.fail) tru) S) k kx := (rfl)
theorem xo_mkk {k : Option Int → Store → Prop} {kx : Exn → Store → Prop} : WM ((evR (E.mkk s m f n ks g e e')).o env S) k kx = WM ((M.bind (M.bind ((evR e).a env) fun xs => M.bind ((evR e').a env) fun ys => if xs.length = n ∧ ys.length = ks.length then M.bind (M.opt ((g.map fun i => (xs ++ ys)[i]?).mapM id)) fun zs => makeD s m f zs else M.fail) optI) S) k kx := (rfl)
theorem xs_mkk {k : Src → Store → Prop} {kx : Exn → Store → Prop} : WM ((evR (E.mkk s m f n ks g e e')).s env S) k kx = WM ((M.bind (M.bind ((evR e).a env) fun xs => M.bind ((evR e').a env) fun ys => if xs.length = n ∧ ys.length = ks.length then M.bind (M.opt ((g.map fun i => (xs ++ ys)[i]?).mapM id)) fun zs => makeD s m f zs else M.fail) srcOf) S) k kx := (rfl)
theorem xv_addl {k : D → Store → Prop} {kx : Exn → Store → Prop} : WM ((evR (E.addl m a b)).v env S) k kx = WM ((M.bind ((evR a).v env) fun x => M.bind ((evR b).v env) fun y => addL m x y) S) k kx := (rfl)
theorem xt_addl {k : Bool → Store → Prop} {kx : Exn → Store → Prop} : WM ((evR (E.addl m a b)).t env S) k kx = WM ((M.bind (M.bind ((evR a).v env) fun x => M.bind ((evR b).v env) fun y => addL m x y) tru) S) k kx := (rfl)
theorem xo_addl {k : Option Int → Store → Prop} {kx : Exn → Store → Prop} : WM ((evR (E.addl m a b)).o env S) k kx = WM ((M.bind (M.bind ((evR a).v env) fun x => M.bind ((evR b).v env) fun y => addL m x y) optI) S) k kx := (rfl)
theorem xs_addl {k : Src → Store → Prop} {kx : Exn → Store → Prop} : WM ((evR (E.addl m a b)).s env S) k kx = WM ((M.bind (M.bind ((evR a).v env) fun x => M.bind ((evR b).v env) fun y => addL m x y) srcOf) S) k kx := (rfl)
theorem xv_eqm {k : D → Store → Prop} {kx : Exn → Store → Prop} : WM ((evR (E.eqm s f a b)).v env S) k kx = WM ((M.bind ((evR a).v env) fun x => M.bind ((evR b).v env) fun y => eqM s f x y) S) k kx := (rfl)
theorem xt_eqm {k : Bool → Store → Prop} {kx : Exn → Store → Prop} : WM ((evR (E.eqm s f a b)).t env S) k kx = WM ((M.bind (M.bind ((evR a).v env) fun x => M.bind ((evR b).v env) fun y => eqM s f x y) tru) S) k kx := (rfl)
theorem xo_eqm {k : Option Int → Store → Prop} {kx : Exn → Store → Prop} : WM ((evR (E.eqm s f a b)).o env S) k kx = WM ((M.bind (M.bind ((evR a).v env) fun x => M.bind ((evR b).v env) fun y => eqM s f x y) optI) S) k kx := (rfl)
theorem xs_eqm {k : Src → Store → Prop} {kx : Exn → Store → Prop} : WM ((evR (E.eqm s f a b)).s env S) k kx = WM ((M.bind (M.bind ((evR a).v env) fun x => M.bind ((evR b).v env) fun y => eqM s f x y) srcOf) S) k kx := (rfl)
theorem xv_dis {k : D → Store → Prop} {kx : Exn → Store → Prop} : WM ((evR (E.dis e)).v env S) k kx = WM ((M.bind (M.nox ((evR e).a env)) disM) S) k kx := (rfl)
theorem xt_dis {k : Bool → Store → Prop} {kx : Exn → Store → Prop} : WM ((evR (E.dis e)).t env S) k kx = WM ((M.bind (M.bind (M.nox ((evR e).a env)) disM) tru) S) k kx := (rfl)
theorem xo_dis {k : Option Int → Store → Prop} {kx : Exn → Store → Prop} : WM ((evR (E.dis e)).o env S) k kx = WM ((M.bind (M.bind (M.nox ((evR e).a env)) disM) optI) S) k kx := (rfl)
theorem xs_dis {k : Src → Store → Prop} {kx : Exn → Store → Prop} : WM ((evR (E.dis e)).s env S) k kx = WM ((M.bind (M.bind (M.nox ((evR e).a env)) disM) srcOf) S) k kx := (rfl)
theorem xa_pr {k : List D → Store → Prop} {kx : Exn → Store → Prop} : WM ((evR (E.pr a b c)).a env S) k kx = WM ((M.bind ((evR a).v env) fun x => M.bind ((evR b).v env) fun y => M.bind ((evR c).a env) fun xs => M.pure (x :: y :: xs)) S) k kx := (rfl)
theorem xs_enum {k : Src → Store → Prop} {kx : Exn → Store → Prop} : WM ((evR (E.enum a)).s env S) k kx = WM ((M.bind ((evR a).v env) enumS) S) k kx := (rfl)
theorem xs_zip2 {k : Src → Store → Prop} {kx : Exn → Store → Prop} : WM ((evR (E.zip2 a b)).s env S) k kx = WM ((M.bind ((evR a).v env) fun x => M.bind ((evR b).v env) fun y => zipS x y) S) k kx := (rfl)
theorem xs_walk {k : Src → Store → Prop} {kx : Exn → Store → Prop} : WM ((evR (E.walk kd a)).s env S) k kx = WM ((M.bind ((evR a).v env) (lockD kd)) S) k kx := (rfl)
theorem xv_isi {k : D → Store → Prop} {kx : Exn → Store → Prop} : WM ((evR (E.isi a cs z)).v env S) k kx = WM ((evR a).v env S) (fun x S1 => WM (M.opt ((isiD S1 x cs).map .bl) S1) k kx) kx := WM_bind
theorem xt_isi {k : Bool → Store → Prop} {kx : Exn → Store → Prop} : WM ((evR (E.isi a cs z)).t env S) k kx = WM ((evR (E.isi a cs z)).v env S) (fun x S1 => WM (tru x S1) k kx) kx := WM_bind
end

section
variable {α : Type} {S : Store} {k : α → Store → Prop} {kd : D → Store → Prop} {kx : Exn → Store → Prop} {xs ys : List D} {i j : Int} {z : Str} {n : Nat}
theorem fits_le' {n : Nat} (h : n ≤ 100000) : fits n = true := by
  unfold fits
  exact decide_eq_true (Nat.le_trans h (by decide))
theorem xfits_t {n : Nat} (h : n ≤ 100000) : fits n = true := fits_le' h
theorem xfits {m m' : M α} (h : n ≤ 100000) : (if fits n = true then m else m') = m := by rw [if_pos (fits_le' h)]
theorem xfitsO {m m' : Out α} (h : n ≤ 100000) : (if fits n = true then m else m') = m := by rw [if_pos (fits_le' h)]
theorem xfitsV {m m' : Option CV} (h : n ≤ 100000) : (if fits n = true then m else m') = m := by rw [if_pos (fits_le' h)]
theorem xbin_addt (h : xs.length + ys.length ≤ 100000) : opBin .add (D.tup xs) (D.tup ys) = M.pure (D.tup (xs ++ ys)) := xfits h
theorem xbin_addl (h : xs.length + ys.length ≤ 100000) : opBin .add (D.lst xs) (D.lst ys) = M.pure (D.lst (xs ++ ys)) := xfits h
theorem xbin_adds {y : Str} (h : z.length + y.length ≤ 100000) : opBin .add (D.str z) (D.str y) = M.pure (D.str (z ++ y)) := xfits h
theorem xbin_mod (h : j ≠ 0) : opBin .mod (D.int i) (D.int j) = M.pure (D.int (i.fmod j)) := by
  show (if j = 0 then M.fail else M.pure (D.int (i.fmod j))) = _
  rw [if_neg h]
theorem xbin_fdiv (h : j ≠ 0) (h' : j.natAbs < 1073741824) : opBin .fdiv (D.int i) (D.int j) = M.pure (D.int (i.fdiv j)) := by
  show (if decide (j ≠ 0) && decide (j.natAbs < 1073741824) then M.pure (D.int (i.fdiv j)) else M.fail) = _
  rw [if_pos (by simp [h, h'])]
theorem xbin_mul (h : -(2 ^ 64) < i ∧ i < 2 ^ 64 ∨ -(2 ^ 64) < j ∧ j < 2 ^ 64) : opBin .mul (D.int i) (D.int j) = M.pure (D.int (i * j)) := by
  show (if cmul i j then M.pure (D.int (i * j)) else M.fail) = _
  rw [if_pos]
  unfold cmul
  simpa using h
theorem xbin_mult (h : 1 ≤ j ∧ j ≤ 1000 ∧ xs.length ≤ 1000) : opBin .mul (D.tup xs) (D.int j) = M.pure (D.tup (List.replicate j.toNat xs).flatten) := by
  show (if decide (1 ≤ j) && (decide (j ≤ 1000) && decide (xs.length ≤ 1000)) then M.pure (D.tup (List.replicate j.toNat xs).flatten) else M.fail) = _
  rw [if_pos (by simp [h])]
theorem xbin_mull (h : 1 ≤ j ∧ j ≤ 1000 ∧ xs.length ≤ 1000) : opBin .mul (D.lst xs) (D.int j) = M.pure (D.lst (List.replicate j.toNat xs).flatten) := by
  show (if decide (1 ≤ j) && (decide (j ≤ 1000) && decide (xs.length ≤ 1000)) then M.pure (D.lst (List.replicate j.toNat xs).flatten) else M.fail) = _
  rw [if_pos (by simp [h])]
theorem xpLen_str (h : z.length ≤ 100000) : pLen [D.str z] = M.pure (D.int z.length) := xfits h
def intsL (lo hi : Int) : List Int := (List.range (hi - lo).toNat).map fun i => lo + (i : Nat)
theorem xrngI (h : -100000000 ≤ i ∧ i ≤ 100000000 ∧ -100000000 ≤ j ∧ j ≤ 100000000) : rngI i j = M.pure (D.scr (intsL i j)) := by
  unfold rngI
  rw [if_pos (by simp; omega)]
  rfl
theorem intsL_len {lo hi : Int} : (intsL lo hi).length = (hi - lo).toNat := by simp [intsL]
theorem mem_intsL {lo hi x : Int} : x ∈ intsL lo hi ↔ lo ≤ x ∧ x < hi := by
  unfold intsL
  rw [List.mem_map]
  constructor
  · rintro ⟨n, hn, rfl⟩
    have := List.mem_range.mp hn
    omega
  · intro h
    exact ⟨(x - lo).toNat, List.mem_range.mpr (by omega), by omega⟩
theorem at_app {T : Store} {i : Nat} : (S ++ T)[S.length + i]? = T[i]? := by
  rw [List.getElem?_append_right (by omega)]
  congr 1
  omega
theorem at_app0 {T : Store} : (S ++ T)[S.length]? = T[0]? := at_app (i := 0)
theorem set_app {T : Store} {i : Nat} {c : CV} : (S ++ T).set (S.length + i) c = S ++ T.set i c := by
  rw [List.set_append_right _ _ (by omega)]
  congr 2
  omega
theorem set_app0 {T : Store} {c : CV} : (S ++ T).set S.length c = S ++ T.set 0 c := set_app (i := 0)
end
theorem setAll_nil {σ : Env} : setAll σ [] [] = σ := rfl
end Py
-- PyWr
namespace Py
open PySem PySem.Spec PyProof.Rows L2
/-! ### loops -/
theorem still_of {s : Src} {S : Store} (h : s.holds S) : still s S = .ok () S := if_pos h
theorem holds_nil {its : List D} {S : Store} : Src.holds ⟨its, []⟩ S := fun p hp => by cases hp
theorem WM_stillH {s : Src} {S : Store} (h : s.holds S) {k : Unit → Store → Prop} {kx : Exn → Store → Prop} : WM (still s S) k kx = k () S := by rw [still_of h, WM_ok]
theorem WM_still {its : List D} {S : Store} {k : Unit → Store → Prop} {kx : Exn → Store → Prop} : WM (still ⟨its, []⟩ S) k kx = k () S := WM_stillH holds_nil
/-- a for over items that stand by themselves: I of the items that are left -/
theorem for_spS {src : Src} {tg : Tg} {b : Sm} {kn kb kc : Env → Store → Prop} {kr : D → Env → Store → Prop} {kx : Exn → Env → Store → Prop} (I : List D → Env → Store → Prop) (hold : ∀ ds env S, I ds env S → src.holds S)
    (step : ∀ d ds env S, I (d :: ds) env S → WO (bindT tg d env S) fun env1 S1 => WS (exS b env1 S1) (I ds) kr kn (I ds) kx)
    (fin : ∀ env S, I [] env S → kn env S) : ∀ (ds : List D) (env : Env) (S : Store), I ds env S → WS (forW src tg (exS b) ds env S) kn kr kb kc kx
  | [], env, S, h => by
    show WS (MS.ev (fun _ => still src) (fun _ => .nx) env S) kn kr kb kc kx
    rw [WS_ev, WM_stillH (hold _ _ _ h), WS_nx]
    exact fin env S h
  | d :: ds, env, S, h => by
    show WS (MS.ev (fun _ => still src) (fun _ => (MS.bd tg d).seq ((exS b).loop (forW src tg (exS b) ds))) env S) kn kr kb kc kx
    rw [WS_ev, WM_stillH (hold _ _ _ h), WS_seq]
    have st := step d ds env S h
    unfold MS.bd
    cases e : bindT tg d env S with
    | ok env1 S1 =>
      rw [e] at st
      have st : WS (exS b env1 S1) (I ds) kr kn (I ds) kx := by with_unfolding_all exact st
      show WS (.ok .nx env1 S1) _ _ _ _ _
      rw [WS_oknx]
      show WS ((exS b).loop (forW src tg (exS b) ds) env1 S1) kn kr kb kc kx
      unfold MS.loop
      cases e1 : exS b env1 S1 with
      | ok f env2 S2 =>
        rw [e1] at st
        cases f with
        | nx => exact for_spS I hold step fin ds env2 S2 (by rw [WS_oknx] at st; exact st)
        | ct => exact for_spS I hold step fin ds env2 S2 (by rw [WS_okct] at st; exact st)
        | bk => with_unfolding_all exact st
        | rt d => with_unfolding_all exact st
      | exc x env2 S2 => rw [e1] at st; with_unfolding_all exact st
      | stuck => rw [e1] at st; with_unfolding_all exact st
    | exc x S1 => rw [e] at st; unfold WO at st; rw [WM_exc] at st; exact st.elim
    | stuck => rw [e] at st; unfold WO at st; rw [WM_stuck] at st; exact st.elim
theorem for_sp {its : List D} {tg : Tg} {b : Sm} {kn kb kc : Env → Store → Prop} {kr : D → Env → Store → Prop} {kx : Exn → Env → Store → Prop} (I : List D → Env → Store → Prop)
    (step : ∀ d ds env S, I (d :: ds) env S → WO (bindT tg d env S) fun env1 S1 => WS (exS b env1 S1) (I ds) kr kn (I ds) kx)
    (fin : ∀ env S, I [] env S → kn env S) (ds : List D) (env : Env) (S : Store) (h : I ds env S) : WS (forW ⟨its, []⟩ tg (exS b) ds env S) kn kr kb kc kx := for_spS I (fun _ _ _ _ => holds_nil) step fin ds env S h
theorem WO_bindn {i : Nat} {d : D} {env : Env} {S : Store} {k : Env → Store → Prop} : WO (bindT (.nm i) d env S) k = k (env.set i (some d)) S := by with_unfolding_all rfl
theorem seqIx {j n : Nat} (h : j < n) : seqIndex? (j : Int) n = some j := by
  unfold seqIndex?
  simp
  omega
theorem WM_pop {n j : Nat} {S : Store} {xs : List D} {k : D → Store → Prop} {kx : Exn → Store → Prop} (h : S[n]? = some (.lst xs)) (l : j < xs.length) (l' : xs.length ≤ 1000) (q : k xs[j] (S.set n (.lst (xs.eraseIdx j)))) : WM (qPop (.cell n) [.int (j : Int)] S) k kx := by
  show WM (match S[n]? with
    | some (.lst xs) => if -(2 ^ 63) ≤ (j : Int) ∧ (j : Int) < 2 ^ 63 then (match seqIndex? (j : Int) xs.length with
      | some j => (match xs[j]? with
        | some y => .ok y (S.set n (.lst (xs.eraseIdx j)))
        | none => .stuck)
      | none => .stuck) else .stuck
    | _ => .stuck) k kx
  rw [h]
  show WM (if -(2 ^ 63) ≤ (j : Int) ∧ (j : Int) < 2 ^ 63 then (match seqIndex? (j : Int) xs.length with
      | some j => (match xs[j]? with
        | some y => .ok y (S.set n (.lst (xs.eraseIdx j)))
        | none => .stuck)
      | none => .stuck) else .stuck) k kx
  rw [if_pos (by omega), seqIx l]
  show WM (match xs[j]? with
        | some y => .ok y (S.set n (.lst (xs.eraseIdx j)))
        | none => .stuck) k kx
  rw [List.getElem?_eq_getElem l]
  show WM (.ok _ _) k kx
  rw [WM_ok]
  exact q
theorem Kept.app {S B T : Store} (hl : B.length = S.length) (h : Kept S B) : Kept S (B ++ T) := fun j hj => by
  rw [List.getElem?_append_left (by omega)]
  exact h j hj
theorem WM_retA {S B T : Store} {d d' : D} {k : D → Store → Prop} {kx : Exn → Store → Prop} (hl : B.length = S.length) (h : Kept S B) (e : fzD (B ++ T) S.length 1000 d = some d') (q : k d' B) : WM (retF true S d (B ++ T)) k kx := by
  refine WM_ret1 (h.app hl) e ?_
  rw [← hl, List.take_left]
  exact q
theorem WM_excA {S B T : Store} {x : Exn} {fs : List (Str × D)} {k : D → Store → Prop} {kx : Exn → Store → Prop} (hl : B.length = S.length) (h : Kept S B) (e : fzF (B ++ T) S.length x.fs = some fs) (q : kx ⟨x.cls, fs⟩ B) : WM (excF true S x (B ++ T)) k kx := by
  refine WM_exc1 (h.app hl) e ?_
  rw [← hl, List.take_left]
  exact q
theorem fz_own {B T : Store} {n i : Nat} {xs : List D} (hn : B.length = n) (h : T[i]? = some (.lst xs)) (hp : ∀ d ∈ xs, Pl 400 d) (hl : xs.length ≤ 500) : fzD (B ++ T) n 1000 (D.cell (n + i)) = some (D.lst xs) := by
  show (if n + i < n then some (D.cell (n + i)) else (match (B ++ T)[n + i]? with
      | some (.lst xs) => (fzL (B ++ T) n 999 xs).map D.lst
      | some (.ins c fs) => (fzL (B ++ T) n 999 (fs.map (·.2))).map (.ins c (fs.map (·.1)))
      | _ => none)) = _
  rw [if_neg (by omega), ← hn, at_app, h]
  show (fzL (B ++ T) B.length 999 xs).map D.lst = _
  rw [fzL_of _ _ 999 xs (by have := fuL_le (m := 400) fun d q => (hp d q).1; omega) (noCL_of fun d q => (hp d q).2)]
  rfl
theorem toPs_strs (S : Store) : ∀ (r : List Str) (m : Nat), r.length + 1 < m → toPs S m (r.map D.str) = some (r.map PyData.str)
  | [], m + 1, _ => rfl
  | x :: r, m + 2, h => by
    rw [List.map_cons]
    show (match toP S (m + 1) (.str x), toPs S (m + 1) (r.map D.str) with
      | some p, some ps => some (p :: ps)
      | _, _ => none) = _
    rw [toPs_strs S r (m + 1) (by simp at h; omega)]
    rfl
theorem sorted_strs (S : Store) (ys : List Str) (h : ys.length ≤ 900) : ∃ zs : List Str, zs.Perm ys ∧ pSorted [.lst (ys.map .str)] S = .ok (.lst (zs.map .str)) S := by
  have hc : PySem.W.AllAlike (ys.map PyData.str) ∧ PySem.W.Sortable (ys.map PyData.str) ∧ PyData.depthAll (ys.map PyData.str) ≤ 100 := by
    refine ⟨PySem.W.AllAlike.of fun _ _ => rfl, PySem.W.Sortable.others fun _ => ⟨by simp, fun _ => by simp⟩, ?_⟩
    have : ∀ l : List Str, PyData.depthAll (l.map PyData.str) ≤ 0 := fun l => by
      induction l with
      | nil => simp [PyData.depthAll]
      | cons a l ih => simp only [List.map_cons, PyData.depthAll, PyData.depth]; omega
    have := this ys
    omega
  have e : pSorted [.lst (ys.map .str)] S = .ok (D.lst ((((ys.map D.str).zip (ys.map PyData.str)).mergeSort (PySem.W.dataLe false fun z => z.2)).map (fun p : D × PyData => p.1))) S := by
    show (match toPs S 1000 (ys.map D.str) with
      | some ps => @ite _ (PySem.W.AllAlike ps ∧ PySem.W.Sortable ps ∧ PyData.depthAll ps ≤ 100) (Classical.propDecidable _) (Out.ok (D.lst ((((ys.map D.str).zip ps).mergeSort (PySem.W.dataLe false fun z => z.2)).map (fun p : D × PyData => p.1))) S) .stuck
      | none => .stuck) = _
    rw [toPs_strs S ys 1000 (by omega)]
    show @ite _ _ (Classical.propDecidable _) _ _ = _
    rw [if_pos hc]
  have z : (ys.map D.str).zip (ys.map PyData.str) = ys.map fun y => (D.str y, PyData.str y) := List.zip_map' ..
  have p := (List.mergeSort_perm ((ys.map D.str).zip (ys.map PyData.str)) (PySem.W.dataLe false fun z => z.2))
  have p2 := p.map (fun p : D × PyData => p.1)
  rw [z] at p2
  rw [List.map_map] at p2
  have e2 : (ys.map ((fun x : D × PyData => x.1) ∘ fun y => (D.str y, PyData.str y))) = ys.map D.str := rfl
  rw [e2] at p2
  have : ∃ zs : List Str, (((ys.map D.str).zip (ys.map PyData.str)).mergeSort (PySem.W.dataLe false fun z => z.2)).map (fun p : D × PyData => p.1) = zs.map D.str ∧ zs.Perm ys := by
    rw [z]
    refine ⟨((ys.map fun y => (D.str y, PyData.str y)).mergeSort (PySem.W.dataLe false fun z => z.2)).map fun p => match p.1 with | .str x => x | _ => "", ?_, ?_⟩
    · rw [List.map_map]
      refine List.map_congr_left fun q hq => ?_
      obtain ⟨y, _, rfl⟩ := List.mem_map.mp ((List.mergeSort_perm _ _).mem_iff.mp hq)
      rfl
    · have p3 := (List.mergeSort_perm (ys.map fun y => (D.str y, PyData.str y)) (PySem.W.dataLe false fun z => z.2)).map fun p : D × PyData => match p.1 with | .str x => x | _ => ""
      rw [List.map_map] at p3
      have : ys.map ((fun p : D × PyData => match p.1 with | .str x => x | _ => "") ∘ fun y => (D.str y, PyData.str y)) = ys := by
        have := List.map_id ys
        exact this
      rw [this] at p3
      exact p3
  obtain ⟨zs, e3, p4⟩ := this
  exact ⟨zs, p4, by rw [e, e3]⟩
theorem cut_to {xs : List D} {k : Nat} : Py.cutD xs none (some (k : Int)) = xs.take k := by
  unfold Py.cutD
  rw [HT.sIx_none, HT.sIx_nat, List.drop_zero, Nat.sub_zero]
  by_cases h : k ≤ xs.length
  · rw [Nat.min_eq_left h]
  · rw [Nat.min_eq_right (by omega), List.take_of_length_le (Nat.le_refl _), List.take_of_length_le (by omega)]
theorem cut_from {xs : List D} {k : Nat} : Py.cutD xs (some (k : Int)) none = xs.drop k := by
  unfold Py.cutD
  rw [HT.sIx_none, HT.sIx_nat]
  by_cases h : k ≤ xs.length
  · rw [Nat.min_eq_left h]
    exact List.take_of_length_le (by simp)
  · rw [Nat.min_eq_right (by omega), List.drop_of_length_le (Nat.le_refl _), List.drop_of_length_le (by omega)]
    simp
theorem cut_mid {xs : List D} {k l : Nat} : Py.cutD xs (some (k : Int)) (some (l : Int)) = (xs.drop k).take (l - k) := by
  unfold Py.cutD
  rw [HT.sIx_nat, HT.sIx_nat]
  by_cases h : k ≤ xs.length
  · rw [Nat.min_eq_left h]
    by_cases h2 : l ≤ xs.length
    · rw [Nat.min_eq_left h2]
    · rw [Nat.min_eq_right (by omega), List.take_of_length_le (by simp), List.take_of_length_le (by simp; omega)]
  · rw [show min k xs.length = xs.length by omega, List.drop_of_length_le (Nat.le_refl _), List.drop_of_length_le (show xs.length ≤ k by omega)]
    simp
theorem intsOf_map : ∀ ns : List Int, intsOf (ns.map D.int) = some ns
  | [] => rfl
  | i :: r => by
    show (intsOf (r.map D.int)).map (i :: ·) = _
    rw [intsOf_map r]
    rfl
theorem xbin_pow {i j : Int} (h : 0 ≤ j ∧ j ≤ 1000000 ∧ i.natAbs < 2 ^ 64) : opBin .pow (D.int i) (D.int j) = M.pure (D.int (i ^ j.toNat)) := by
  show (if decide (0 ≤ j) && (decide (j ≤ 1000000) && decide (i.natAbs < 2 ^ 64)) then M.pure (D.int (i ^ j.toNat)) else M.fail) = _
  rw [if_pos (by simpa using h)]
theorem eqD_int (S : Store) (i j : Int) : eqD S (.int i) (.int j) = some (decide (i = j)) := by
  have h := PySem.W.Datum.eqv (i : Int) j
  have h : PyData.eqv (.int i) (.int j) = decide (i = j) := h
  unfold eqD
  show (if SeqAt.shaped (.int i) && SeqAt.shaped (.int j) then some (PyData.eqv (.int i) (.int j)) else none) = _
  rw [h]
  rfl
theorem blsOf_map {α : Type} (f : α → Bool) : ∀ l : List α, blsOf (l.map fun a => D.bl (f a)) = some (l.map f)
  | [] => rfl
  | a :: l => by
    show (blsOf (l.map fun a => D.bl (f a))).map (f a :: ·) = _
    rw [blsOf_map f l]
    rfl
/-! ### comprehensions -/
noncomputable def lcG (env : Env) (tg : Tg) (c e : E) (d : D) : M (Option D) := M.bind (bindT tg d (wipeE env tg)) fun en => M.bind ((evR c).t en) fun k => if k then M.bind ((evR e).v en) fun r => M.pure (some r) else M.pure none
theorem xv_lc {m : Bool} {tg : Tg} {it c e : E} {env : Env} {S : Store} {k : D → Store → Prop} {kx : Exn → Store → Prop} : WM ((evR (.lc m tg it c e)).v env S) k kx =
    WM ((evR it).s env S) (fun s S2 => WM (turnsW s (lcG env tg c e) s.items S2) (fun rs S3 => if fits rs.length = true then WM (mkL m rs S3) k kx else False) kx) kx := by
  refine WM_bind.trans (WM_ext (fun s S2 => WM_bind.trans (WM_ext (fun rs S3 => ?_) fun _ _ => rfl)) fun _ _ => rfl)
  rw [WM_ite, WM_fail]
theorem xlcG_nm {i : Nat} {c e : E} {env : Env} {d : D} {S : Store} {k : Option D → Store → Prop} {kx : Exn → Store → Prop} : WM (lcG env (.nm i) c e d S) k kx =
    WM ((evR c).t (env.set i (some d)) S) (fun q S1 => if q = true then WM ((evR e).v (env.set i (some d)) S1) (fun r S2 => k (some r) S2) kx else k none S1) kx := by
  have e0 : bindT (.nm i) d (wipeE env (.nm i)) S = .ok (env.set i (some d)) S := by
    show Out.ok ((env.set i none).set i (some d)) S = _
    rw [List.set_set]
  unfold lcG
  rw [WM_bind, e0, WM_ok, WM_bind]
  refine WM_ext (fun q S1 => ?_) fun _ _ => rfl
  cases q
  · exact WM_pure
  · exact WM_bind.trans (WM_ext (fun _ _ => WM_pure) fun _ _ => rfl)
theorem xlcG_tp {is : List Nat} {c e : E} {env : Env} {xs : List D} {S : Store} {k : Option D → Store → Prop} {kx : Exn → Store → Prop} (h : xs.length = is.length) : WM (lcG env (.tp is) c e (.tup xs) S) k kx =
    WM ((evR c).t (setAll (is.foldr (fun i en => en.set i none) env) is xs) S) (fun q S1 => if q = true then WM ((evR e).v (setAll (is.foldr (fun i en => en.set i none) env) is xs) S1) (fun r S2 => k (some r) S2) kx else k none S1) kx := by
  have e0 : bindT (.tp is) (.tup xs) (wipeE env (.tp is)) S = .ok (setAll (is.foldr (fun i en => en.set i none) env) is xs) S := by
    show M.bind (seqOf (.tup xs)) (fun xs => if xs.length = is.length then M.pure ((is.zip xs).foldl (fun en p => en.set p.1 (some p.2)) (is.foldr (fun i en => en.set i none) env)) else M.fail) S = _
    show (if xs.length = is.length then M.pure ((is.zip xs).foldl (fun en p => en.set p.1 (some p.2)) (is.foldr (fun i en => en.set i none) env)) else M.fail) S = _
    rw [if_pos h]
    rfl
  unfold lcG
  rw [WM_bind, e0, WM_ok, WM_bind]
  refine WM_ext (fun q S1 => ?_) fun _ _ => rfl
  cases q
  · exact WM_pure
  · exact WM_bind.trans (WM_ext (fun _ _ => WM_pure) fun _ _ => rfl)
theorem still_cell {S : Store} {n : Nat} {its : List D} (h : S[n]? = some (.lst its)) : Src.holds ⟨its, [(n, its)]⟩ S := fun p hp => by
  have : p = (n, its) := by simpa using hp
  rw [this]
  exact h
/-- turns that leave the store, over any source that stands -/
theorem turns_mapS {α : Type} {s : Src} {f : D → M (Option D)} {S : Store} {k : List D → Store → Prop} {kx : Exn → Store → Prop} (hs : s.holds S) (h : α → D) (p : α → Bool) (g : α → D) : ∀ (ks : List α), (∀ a ∈ ks, WO (f (h a) S) fun o S' => o = (if p a then some (g a) else none) ∧ S' = S) → k ((ks.filter p).map g) S → WM (turnsW s f (ks.map h) S) k kx := by
  have key : ∀ (ks : List α), (∀ a ∈ ks, WO (f (h a) S) fun o S' => o = (if p a then some (g a) else none) ∧ S' = S) → turnsW s f (ks.map h) S = .ok ((ks.filter p).map g) S := by
    intro ks
    induction ks with
    | nil =>
      intro _
      show M.bind (still s) _ _ = _
      rw [M.bind_of (still_of hs)]
      rfl
    | cons a ks ih =>
      intro q
      obtain ⟨o, S', e, rfl, rfl⟩ := WO.ex (q a List.mem_cons_self)
      show M.bind (still _) _ _ = _
      rw [M.bind_of (still_of hs), M.bind_of (a := if p a then some (g a) else none) (S1 := S') (by unfold M.nox; rw [e]), M.bind_of (ih fun b m => q b (List.mem_cons_of_mem _ m))]
      unfold M.pure
      cases c : p a <;> simp [List.filter_cons, c]
  intro ks q w
  exact WM.eq_ok (key ks q) w
theorem turns_map {α : Type} {its : List D} {f : D → M (Option D)} {S : Store} {k : List D → Store → Prop} {kx : Exn → Store → Prop} (h : α → D) (p : α → Bool) (g : α → D) (ks : List α) (q : ∀ a ∈ ks, WO (f (h a) S) fun o S' => o = (if p a then some (g a) else none) ∧ S' = S) (w : k ((ks.filter p).map g) S) : WM (turnsW ⟨its, []⟩ f (ks.map h) S) k kx := turns_mapS holds_nil h p g ks q w
/-- turns: I of what has been found, of what is left -/
theorem turns_invS {s : Src} {f : D → M (Option D)} {k : List D → Store → Prop} {kx : Exn → Store → Prop} (I : List D → List D → Store → Prop) (hold : ∀ rs ds S, I rs ds S → s.holds S) (step : ∀ rs d ds S, I rs (d :: ds) S → WO (f d S) fun o S' => I (rs ++ o.toList) ds S') (fin : ∀ rs S, I rs [] S → k rs S) :
    ∀ (ds : List D) (S : Store), I [] ds S → WM (turnsW s f ds S) k kx := by
  have key : ∀ (ds rs : List D) (S : Store), I rs ds S → ∃ qs S', turnsW s f ds S = .ok qs S' ∧ I (rs ++ qs) [] S' := by
    intro ds
    induction ds with
    | nil =>
      intro rs S h
      refine ⟨[], S, ?_, by rw [List.append_nil]; exact h⟩
      show M.bind (still s) _ _ = _
      rw [M.bind_of (still_of (hold _ _ _ h))]
      rfl
    | cons d ds ih =>
      intro rs S h
      obtain ⟨o, S1, e, h1⟩ := WO.ex (step rs d ds S h)
      obtain ⟨qs, S2, e2, h2⟩ := ih _ S1 h1
      refine ⟨o.toList ++ qs, S2, ?_, by rw [← List.append_assoc]; exact h2⟩
      show M.bind (still _) _ _ = _
      rw [M.bind_of (still_of (hold _ _ _ h)), M.bind_of (a := o) (S1 := S1) (by unfold M.nox; rw [e]), M.bind_of e2]
      rfl
  intro ds S h
  obtain ⟨qs, S', e, h'⟩ := key ds [] S h
  exact WM.eq_ok e (fin _ _ h')
theorem turns_inv {its : List D} {f : D → M (Option D)} {k : List D → Store → Prop} {kx : Exn → Store → Prop} (I : List D → List D → Store → Prop) (step : ∀ rs d ds S, I rs (d :: ds) S → WO (f d S) fun o S' => I (rs ++ o.toList) ds S') (fin : ∀ rs S, I rs [] S → k rs S) (ds : List D) (S : Store) (h : I [] ds S) : WM (turnsW ⟨its, []⟩ f ds S) k kx := turns_invS I (fun _ _ _ _ => holds_nil) step fin ds S h
/-- a walk over a dict -/
theorem WM_lcd {m : Bool} {tg : Tg} {i n : Nat} {c e : E} {env : Env} {S : Store} {k : D → Store → Prop} {kx : Exn → Store → Prop} {kvs : List (Key × D)} (h1 : (env[i]?).bind id = some (.cell n)) (h2 : S[n]? = some (.dic false kvs))
    (q : WO (turnsW (keysS kvs) (lcG env tg c e) (keysS kvs).items (S.set n (.dic true kvs))) fun rs S2 => fits rs.length = true ∧ WM (mkL m rs (S2.set n (.dic false kvs))) k kx) : WM ((evR (.lcd m tg i c e)).v env S) k kx := by
  obtain ⟨rs, S2, e1, e2, e3⟩ := WO.ex q
  have e4 : (evR (.lcd m tg i c e)).v env S = mkL m rs (S2.set n (.dic false kvs)) := by
    show (match (env[i]?).bind id with
      | some (.cell n) => lcdM m n (lcG env tg c e) S
      | _ => .stuck) = _
    rw [h1]
    show lcdM m n (lcG env tg c e) S = _
    unfold lcdM
    rw [h2]
    show (match turnsW (keysS kvs) (lcG env tg c e) (keysS kvs).items (S.set n (.dic true kvs)) with
      | .ok rs S2 => if fits rs.length then mkL m rs (S2.set n (.dic false kvs)) else .stuck
      | _ => .stuck) = _
    rw [e1]
    show (if fits rs.length then mkL m rs (S2.set n (.dic false kvs)) else .stuck) = _
    rw [if_pos e2]
  rw [e4]
  exact e3
/-- a list, plain or a mutable object -/
def IsL (S : Store) (d : D) (xs : List D) : Prop := d = .lst xs ∨ ∃ n, d = .cell n ∧ S[n]? = some (.lst xs)
/-- told and due are the same all through -/
inductive Sa : Store → Nat → D → D → Prop
  | non {S : Store} {m : Nat} : Sa S (m + 1) .non .non
  | bl {S : Store} {m : Nat} (b : Bool) : Sa S (m + 1) (.bl b) (.bl b)
  | int {S : Store} {m : Nat} (i : Int) : Sa S (m + 1) (.int i) (.int i)
  | str {S : Store} {m : Nat} (x : Str) : x.length ≤ 1000 → PyData.strOk x = true → Sa S (m + 1) (.str x) (.str x)
  | tup {S : Store} {m : Nat} {xs ys : List D} : xs.length = ys.length → ys.length ≤ 1000 → (∀ (i : Nat) (x y : D), xs[i]? = some x → ys[i]? = some y → Sa S m x y) → Sa S (m + 1) (.tup xs) (.tup ys)
  | lst {S : Store} {m : Nat} {a b : D} {xs ys : List D} : IsL S a xs → IsL S b ys → xs.length = ys.length → ys.length ≤ 1000 → (∀ (i : Nat) (x y : D), xs[i]? = some x → ys[i]? = some y → Sa S m x y) → Sa S (m + 1) a b
  | dic {S : Store} {m n : Nat} {kvs : List (Key × D)} : S[n]? = some (.dic false kvs) → kvs.length ≤ 1000 → (∀ p ∈ kvs, valD kvs p.1 = some p.2) → (∀ p ∈ kvs, ∀ S', Sa S' m p.2 p.2) → Sa S (m + 1) (.cell n) (.cell n)
theorem xix_key {S : Store} {n : Nat} {b : Bool} {kvs : List (Key × D)} {k : Key} {v : D} (h : S[n]? = some (.dic b kvs)) (e : valD kvs k = some v) : opIx (.cell n) (keyD k) S = .ok v S := by
  cases k with
  | inl i =>
    show opIx (.cell n) (.int i) S = _
    rw [xix_celli, h]
    show M.opt (valD kvs (.inl i)) S = _
    rw [e]
    rfl
  | inr i =>
    show opIx (.cell n) (.str i) S = _
    rw [xix_cells, h]
    show M.opt (valD kvs (.inr i)) S = _
    rw [e]
    rfl
theorem xin_key {S : Store} {n : Nat} {b : Bool} {kvs : List (Key × D)} {k : Key} (h : S[n]? = some (.dic b kvs)) : isInD (keyD k) (.cell n) S = .ok (valD kvs k).isSome S := by
  rw [xisin_, h]
  cases k <;> rfl
theorem eqD_bl (S : Store) (i j : Bool) : eqD S (.bl i) (.bl j) = some (decide (i = j)) := by
  have h := PySem.W.Datum.eqv (i : Bool) j
  have h : PyData.eqv (.bool i) (.bool j) = decide (i = j) := h
  unfold eqD
  show (if SeqAt.shaped (.bool i) && SeqAt.shaped (.bool j) then some (PyData.eqv (.bool i) (.bool j)) else none) = _
  rw [h]
  rfl
theorem eqD_str (S : Store) {i j : Str} (hi : PyData.strOk i = true) (hj : PyData.strOk j = true) : eqD S (.str i) (.str j) = some (decide (i = j)) := by
  have h := PySem.W.Datum.eqv (i : Str) j
  have h : PyData.eqv (.str i) (.str j) = decide (i = j) := h
  have sh : ∀ x : Str, PyData.strOk x = true → SeqAt.shaped (.str x) = true := fun x hx => by
    unfold SeqAt.shaped
    rw [show PyData.canLay0 (.str x) = true by simp only [PyData.canLay0, hx]]
    rfl
  unfold eqD
  show (if SeqAt.shaped (.str i) && SeqAt.shaped (.str j) then some (PyData.eqv (.str i) (.str j)) else none) = _
  rw [h, sh i hi, sh j hj]
  rfl
theorem eqD_nil (S : Store) : eqD S (.lst []) (.lst []) = some true := rfl
theorem one_ok {x : Str} (h : PyData.strOk x = true) {i : Nat} {c : Nat} (e : x.cps.toList[i]? = some c) : PyData.strOk ⟨#[c]⟩ = true := by
  unfold PyData.strOk at *
  rw [← Array.all_toList, List.all_eq_true] at h
  have := h c (List.mem_of_getElem? e)
  simp only [← Array.all_toList, List.all_cons, List.all_nil, Bool.and_true]
  exact this
theorem cut_one {xs : List Nat} {i c : Nat} (e : xs[i]? = some c) : Py.cutD xs (some (i : Int)) (some ((i : Int) + 1)) = [c] := by
  unfold Py.cutD
  have hl := (List.getElem?_eq_some_iff.mp e).1
  rw [show ((i : Int) + 1) = ((i + 1 : Nat) : Int) by omega, HT.sIx_nat, HT.sIx_nat, Nat.min_eq_left (by omega), Nat.min_eq_left (by omega)]
  rw [show i + 1 - i = 1 by omega, List.drop_eq_getElem_cons hl, (List.getElem?_eq_some_iff.mp e).2]
  rfl
theorem xsl_str {z : Str} {lo hi : Option Int} (h : z.length ≤ 100000) : opSl (.str z) lo hi = M.pure (.str ⟨(Py.cutD z.cps.toList lo hi).toArray⟩) := by
  show (if fits z.length then M.pure (D.str ⟨(Py.cutD z.cps.toList lo hi).toArray⟩) else M.fail) = _
  rw [fits_le' h] <;> rfl
theorem xix_str {z : Str} {i : Int} (h : z.length ≤ 100000) : opIx (.str z) (.int i) = (match atI z.cps.toList i with | some c => M.pure (.str ⟨#[c]⟩) | none => M.fail) := by
  show (if fits z.length then (match atI z.cps.toList i with | some c => M.pure (D.str ⟨#[c]⟩) | none => M.fail) else M.fail) = _
  rw [fits_le' h] <;> rfl
theorem items_of {S : Store} {d : D} {xs : List D} (h : IsL S d xs) : seqOf d S = .ok xs S := by
  rcases h with rfl | ⟨n, rfl, e⟩
  · rfl
  · rw [xseq_cell, e]
theorem ty_of {S : Store} {d : D} {xs : List D} (h : IsL S d xs) : tyD S d = some (.b "list") := by
  rcases h with rfl | ⟨n, rfl, e⟩
  · rfl
  · rw [xty_cell, e]
theorem len_of {S : Store} {d : D} {xs : List D} (h : IsL S d xs) : pLen [d] S = .ok (.int xs.length) S := by
  rcases h with rfl | ⟨n, rfl, e⟩
  · rfl
  · rw [xpLen_cell, e]
theorem ix_of {S : Store} {d : D} {xs : List D} (h : IsL S d xs) {i : Nat} {x : D} (e : xs[i]? = some x) : opIx d (.int i) S = .ok x S := by
  rcases h with rfl | ⟨n, rfl, q⟩
  · rw [xix_lst, atI_nat e] <;> rfl
  · rw [xix_celli, q]
    show M.opt (atI xs (i : Int)) S = _
    rw [atI_nat e] <;> rfl
/-! ### own objects -/
theorem WM_make {c : Str} {keep : Bool} {f : Sem} {xs : List D} {S : Store} {k : D → Store → Prop} {kx : Exn → Store → Prop} : WM (makeD c keep f xs S) k kx =
    WM (f (.cell S.length :: xs) (S ++ [.ins c []])) (fun d S' => d = .non ∧ WM (retF (!keep) S (.cell S.length) S') k kx) (fun x S' => WM (excF (!keep) S x S') k kx) := by
  unfold makeD
  cases f (.cell S.length :: xs) (S ++ [.ins c []]) with
  | ok d S' =>
    rw [WM_ok]
    cases d with
    | non => simp only [true_and]
    | _ =>
      show WM .stuck _ _ = _
      rw [WM_stuck]
      simp
  | exc x S' => rw [WM_exc]
  | stuck => rw [WM_stuck, WM_stuck]
end Py
-- PyWs
open Py PySem PySem.Spec PyProof.Rows L2
local macro_rules
  | `(tactic| simp_arith) => `(tactic| try simp -dsimp (disch := (first | assumption | omega | (simp only [List.length_append, List.length_map, List.length_cons, List.length_nil, List.length_range, List.length_reverse, List.length_replicate, List.length_drop, List.length_take] at *; omega) | decide)) only [WM_nox, WO_pure, WO_ok, WM_ok, WM_exc, WM_stuck, WM_pure, WM_fail, WM_some, WM_none, ↓WM_bind, WM_ite, WS_nil, WS_cons, WS_doc, WS_pss, WS_retn, WS_brk, WS_cnt, WS_set, WS_sett, WS_par, WS_put, WS_sat, WS_ex, WS_ite, WS_for, WS_ret, WS_rs, WS_try, WM_ret0, WM_exc0, setAll_cons, setAll_nil, env0, List.map_cons, List.map_nil, List.length_cons, List.length_nil, Nat.sub_self, List.replicate_zero, List.append_nil, List.getElem?_cons_zero, List.getElem?_cons_succ, Option.bind_some, id, Option.map_some, List.set_cons_zero, List.set_cons_succ, if_true, if_false, ite_true, ite_false, Bool.not_true, Bool.not_false, reduceIte, Nat.reduceAdd, Nat.reduceSub, Nat.reduceEqDiff, List.replicate_succ, List.cons_append, List.nil_append, Bool.false_eq_true, true_and, and_true, List.append_assoc, List.length_append, List.any_cons, List.any_nil, Bool.or_false, Bool.or_true, Bool.true_or, Bool.false_or, ↓xv_var, ↓xt_var, ↓xo_var, ↓xs_var, ↓xv_con, ↓xt_con, ↓xo_con, ↓xs_con, ↓xv_glob, ↓xt_glob, ↓xo_glob, ↓xs_glob, ↓xv_tup, ↓xt_tup, ↓xo_tup, ↓xs_tup, ↓xv_lst, ↓xt_lst, ↓xo_lst, ↓xs_lst, ↓xv_edic, ↓xt_edic, ↓xo_edic, ↓xs_edic, ↓xv_bin, ↓xt_bin, ↓xo_bin, ↓xs_bin, ↓xv_cmp, ↓xt_cmp, ↓xo_cmp, ↓xs_cmp, ↓xv_chain, ↓xt_chain, ↓xo_chain, ↓xs_chain, ↓xv_neg, ↓xt_neg, ↓xo_neg, ↓xs_neg, ↓xv_ix, ↓xt_ix, ↓xo_ix, ↓xs_ix, ↓xv_sl, ↓xt_sl, ↓xo_sl, ↓xs_sl, ↓xv_rev, ↓xt_rev, ↓xo_rev, ↓xs_rev, ↓xv_call, ↓xt_call, ↓xo_call, ↓xs_call, ↓xv_kall, ↓xt_kall, ↓xo_kall, ↓xs_kall, ↓xv_prim, ↓xt_prim, ↓xo_prim, ↓xs_prim, ↓xv_rng1, ↓xt_rng1, ↓xo_rng1, ↓xs_rng1, ↓xv_rng2, ↓xt_rng2, ↓xo_rng2, ↓xs_rng2, ↓xv_meth, ↓xt_meth, ↓xo_meth, ↓xs_meth, ↓xo_no, ↓xt_no, ↓xa_nil, ↓xa_cons, ↓xv_not, ↓xt_not, ↓xv_and, ↓xt_and, ↓xv_or, ↓xt_or, ↓xv_ite, ↓xv_attr, ↓xt_attr, ↓xo_attr, ↓xs_attr, ↓xv_mk, ↓xt_mk, ↓xo_mk, ↓xs_mk, ↓xv_mkk, ↓xt_mkk, ↓xo_mkk, ↓xs_mkk, ↓xv_addl, ↓xt_addl, ↓xo_addl, ↓xs_addl, ↓xv_eqm, ↓xt_eqm, ↓xo_eqm, ↓xs_eqm, ↓xv_dis, ↓xt_dis, ↓xo_dis, ↓xs_dis, ↓xa_pr, ↓xs_enum, ↓xs_zip2, ↓xs_walk, ↓xv_isi, ↓xt_isi, xcmp_lt, xcmp_le, xcmp_gt, xcmp_ge, xcmp_is, xcmp_isin, xcmp_notin, xbin_addi, xbin_sub, xsl_tup, xix_tup, xix_lst, xix_scr, xin_str, xpLen_tup, xpLen_lst, xpInt, xpAbs, xpMax2, xpMin2, xpTuple, xpTuplet, xcmp_eq, xcmp_ne, xsl_lst, xsl_scr, xin_lst, xpAll, xpAny, xpSum, xpLen_cell, xpLen_scr, xix_celli, xix_cells, xsrc_scr, xsrc_str, xsrc_cell, xsrc_lst, xsrc_tup, xseq_tup, xseq_lst, xseq_scr, xseq_cell, xpList_, xmkL_t, xmkL_f, xmkD_, xtru_non, xtru_bl, xtru_int, xtru_tup, xtru_lst, xboolOf_, xintOf_, xoptI_, xapp_cell, xrev_tup, xrev_lst, xisi_, xty_non, xty_bl, xty_int, xty_str, xty_tup, xty_lst, xty_scr, xty_ins, xty_cell, xisTy_, xput_cell, xputC_lst, xputC_dic, xenum_tup, xenum_lst, xenum_cell, xzip_tt, xzip_ll, xlock_, xwalk_k, xwalk_v, xwalk_i, xsetO_, xin_tup, xkeyOf_i, xkeyOf_s, xis_non, xis_bl, xdisM1, xlit_lst, xlit_cell, xaddL_, xget_, xsetd_, xext_lst, xpDict2c, xpTuplec, xeqm_ins, xeqm_tup, xisin_, xisC_NoneType_NoneType, xisC_NoneType_bool, xisC_NoneType_int, xisC_NoneType_str, xisC_NoneType_tuple, xisC_NoneType_list, xisC_NoneType_dict, xisC_bool_NoneType, xisC_bool_bool, xisC_bool_int, xisC_bool_str, xisC_bool_tuple, xisC_bool_list, xisC_bool_dict, xisC_int_NoneType, xisC_int_bool, xisC_int_int, xisC_int_str, xisC_int_tuple, xisC_int_list, xisC_int_dict, xisC_str_NoneType, xisC_str_bool, xisC_str_int, xisC_str_str, xisC_str_tuple, xisC_str_list, xisC_str_dict, xisC_tuple_NoneType, xisC_tuple_bool, xisC_tuple_int, xisC_tuple_str, xisC_tuple_tuple, xisC_tuple_list, xisC_tuple_dict, xisC_list_NoneType, xisC_list_bool, xisC_list_int, xisC_list_str, xisC_list_tuple, xisC_list_list, xisC_list_dict, xisC_dict_NoneType, xisC_dict_bool, xisC_dict_int, xisC_dict_str, xisC_dict_tuple, xisC_dict_list, xisC_dict_dict, xisC_bc, xisC_cb, xisC_cc, xfits_t, xrngI, xbin_addt, xbin_addl, xbin_adds, xbin_mod, xbin_fdiv, xbin_mul, xbin_mult, xbin_mull, xpLen_str, at_app, at_app0, set_app, set_app0, eqD_int, eqD_bl, eqD_nil, xbin_pow, xsl_str, intsOf_map, blsOf_map, ↓xv_lc, decide_true, decide_false, ↓xlcG_nm, ↓xlcG_tp])
  | `(tactic| simp_arith [$ls,*]) => `(tactic| try simp -dsimp (disch := (first | assumption | omega | (simp only [List.length_append, List.length_map, List.length_cons, List.length_nil, List.length_range, List.length_reverse, List.length_replicate, List.length_drop, List.length_take] at *; omega) | decide)) only [$ls,*, WM_nox, WO_pure, WO_ok, WM_ok, WM_exc, WM_stuck, WM_pure, WM_fail, WM_some, WM_none, ↓WM_bind, WM_ite, WS_nil, WS_cons, WS_doc, WS_pss, WS_retn, WS_brk, WS_cnt, WS_set, WS_sett, WS_par, WS_put, WS_sat, WS_ex, WS_ite, WS_for, WS_ret, WS_rs, WS_try, WM_ret0, WM_exc0, setAll_cons, setAll_nil, env0, List.map_cons, List.map_nil, List.length_cons, List.length_nil, Nat.sub_self, List.replicate_zero, List.append_nil, List.getElem?_cons_zero, List.getElem?_cons_succ, Option.bind_some, id, Option.map_some, List.set_cons_zero, List.set_cons_succ, if_true, if_false, ite_true, ite_false, Bool.not_true, Bool.not_false, reduceIte, Nat.reduceAdd, Nat.reduceSub, Nat.reduceEqDiff, List.replicate_succ, List.cons_append, List.nil_append, Bool.false_eq_true, true_and, and_true, List.append_assoc, List.length_append, List.any_cons, List.any_nil, Bool.or_false, Bool.or_true, Bool.true_or, Bool.false_or, ↓xv_var, ↓xt_var, ↓xo_var, ↓xs_var, ↓xv_con, ↓xt_con, ↓xo_con, ↓xs_con, ↓xv_glob, ↓xt_glob, ↓xo_glob, ↓xs_glob, ↓xv_tup, ↓xt_tup, ↓xo_tup, ↓xs_tup, ↓xv_lst, ↓xt_lst, ↓xo_lst, ↓xs_lst, ↓xv_edic, ↓xt_edic, ↓xo_edic, ↓xs_edic, ↓xv_bin, ↓xt_bin, ↓xo_bin, ↓xs_bin, ↓xv_cmp, ↓xt_cmp, ↓xo_cmp, ↓xs_cmp, ↓xv_chain, ↓xt_chain, ↓xo_chain, ↓xs_chain, ↓xv_neg, ↓xt_neg, ↓xo_neg, ↓xs_neg, ↓xv_ix, ↓xt_ix, ↓xo_ix, ↓xs_ix, ↓xv_sl, ↓xt_sl, ↓xo_sl, ↓xs_sl, ↓xv_rev, ↓xt_rev, ↓xo_rev, ↓xs_rev, ↓xv_call, ↓xt_call, ↓xo_call, ↓xs_call, ↓xv_kall, ↓xt_kall, ↓xo_kall, ↓xs_kall, ↓xv_prim, ↓xt_prim, ↓xo_prim, ↓xs_prim, ↓xv_rng1, ↓xt_rng1, ↓xo_rng1, ↓xs_rng1, ↓xv_rng2, ↓xt_rng2, ↓xo_rng2, ↓xs_rng2, ↓xv_meth, ↓xt_meth, ↓xo_meth, ↓xs_meth, ↓xo_no, ↓xt_no, ↓xa_nil, ↓xa_cons, ↓xv_not, ↓xt_not, ↓xv_and, ↓xt_and, ↓xv_or, ↓xt_or, ↓xv_ite, ↓xv_attr, ↓xt_attr, ↓xo_attr, ↓xs_attr, ↓xv_mk, ↓xt_mk, ↓xo_mk, ↓xs_mk, ↓xv_mkk, ↓xt_mkk, ↓xo_mkk, ↓xs_mkk, ↓xv_addl, ↓xt_addl, ↓xo_addl, ↓xs_addl, ↓xv_eqm, ↓xt_eqm, ↓xo_eqm, ↓xs_eqm, ↓xv_dis, ↓xt_dis, ↓xo_dis, ↓xs_dis, ↓xa_pr, ↓xs_enum, ↓xs_zip2, ↓xs_walk, ↓xv_isi, ↓xt_isi, xcmp_lt, xcmp_le, xcmp_gt, xcmp_ge, xcmp_is, xcmp_isin, xcmp_notin, xbin_addi, xbin_sub, xsl_tup, xix_tup, xix_lst, xix_scr, xin_str, xpLen_tup, xpLen_lst, xpInt, xpAbs, xpMax2, xpMin2, xpTuple, xpTuplet, xcmp_eq, xcmp_ne, xsl_lst, xsl_scr, xin_lst, xpAll, xpAny, xpSum, xpLen_cell, xpLen_scr, xix_celli, xix_cells, xsrc_scr, xsrc_str, xsrc_cell, xsrc_lst, xsrc_tup, xseq_tup, xseq_lst, xseq_scr, xseq_cell, xpList_, xmkL_t, xmkL_f, xmkD_, xtru_non, xtru_bl, xtru_int, xtru_tup, xtru_lst, xboolOf_, xintOf_, xoptI_, xapp_cell, xrev_tup, xrev_lst, xisi_, xty_non, xty_bl, xty_int, xty_str, xty_tup, xty_lst, xty_scr, xty_ins, xty_cell, xisTy_, xput_cell, xputC_lst, xputC_dic, xenum_tup, xenum_lst, xenum_cell, xzip_tt, xzip_ll, xlock_, xwalk_k, xwalk_v, xwalk_i, xsetO_, xin_tup, xkeyOf_i, xkeyOf_s, xis_non, xis_bl, xdisM1, xlit_lst, xlit_cell, xaddL_, xget_, xsetd_, xext_lst, xpDict2c, xpTuplec, xeqm_ins, xeqm_tup, xisin_, xisC_NoneType_NoneType, xisC_NoneType_bool, xisC_NoneType_int, xisC_NoneType_str, xisC_NoneType_tuple, xisC_NoneType_list, xisC_NoneType_dict, xisC_bool_NoneType, xisC_bool_bool, xisC_bool_int, xisC_bool_str, xisC_bool_tuple, xisC_bool_list, xisC_bool_dict, xisC_int_NoneType, xisC_int_bool, xisC_int_int, xisC_int_str, xisC_int_tuple, xisC_int_list, xisC_int_dict, xisC_str_NoneType, xisC_str_bool, xisC_str_int, xisC_str_str, xisC_str_tuple, xisC_str_list, xisC_str_dict, xisC_tuple_NoneType, xisC_tuple_bool, xisC_tuple_int, xisC_tuple_str, xisC_tuple_tuple, xisC_tuple_list, xisC_tuple_dict, xisC_list_NoneType, xisC_list_bool, xisC_list_int, xisC_list_str, xisC_list_tuple, xisC_list_list, xisC_list_dict, xisC_dict_NoneType, xisC_dict_bool, xisC_dict_int, xisC_dict_str, xisC_dict_tuple, xisC_dict_list, xisC_dict_dict, xisC_bc, xisC_cb, xisC_cc, xfits_t, xrngI, xbin_addt, xbin_addl, xbin_adds, xbin_mod, xbin_fdiv, xbin_mul, xbin_mult, xbin_mull, xpLen_str, at_app, at_app0, set_app, set_app0, eqD_int, eqD_bl, eqD_nil, xbin_pow, xsl_str, intsOf_map, blsOf_map, ↓xv_lc, decide_true, decide_false, ↓xlcG_nm, ↓xlcG_tp])
-- PyBx
namespace Py
open PySem PySem.Spec PyProof.Rows L2
/-! ### the box -/
def boxC (a : Int) (b : Bool) (c d : Int) : CV := .lst [.int a, .bl b, .int c, .int d]
/-- a box stands at n -/
def Bx (n : Nat) (S : Store) : Prop := ∃ a b c d, S[n]? = some (boxC a b c d)
/-- nothing but the box at n has changed -/
structure St (n : Nat) (S S' : Store) : Prop where
  len : S'.length = S.length
  box : Bx n S'
  oth : ∀ j, j ≠ n → S'[j]? = S[j]?
theorem St.trans {n : Nat} {S S1 S2 : Store} (a : St n S S1) (b : St n S1 S2) : St n S S2 := ⟨b.len.trans a.len, b.box, fun j h => (b.oth j h).trans (a.oth j h)⟩
theorem St.refl {n : Nat} {S : Store} (h : Bx n S) : St n S S := ⟨rfl, h, fun _ _ => rfl⟩
theorem Bx.lt {n : Nat} {S : Store} (h : Bx n S) : n < S.length := by
  obtain ⟨a, b, c, d, e⟩ := h
  exact (List.getElem?_eq_some_iff.mp e).1
theorem St.set {n : Nat} {S : Store} (h : n < S.length) (a : Int) (b : Bool) (c d : Int) : St n S (S.set n (boxC a b c d)) := ⟨by simp, ⟨a, b, c, d, by rw [List.getElem?_set_self h]⟩, fun j q => by rw [List.getElem?_set_ne (Ne.symm q)]⟩
theorem St.kept {n : Nat} {S S' : Store} (h : St n S S') : Py.Kept S S' := fun j hj => by
  by_cases q : j = n
  · subst q
    obtain ⟨a, b, c, d, e⟩ := h.box
    exact .inr ⟨_, e, True.intro, True.intro, True.intro, True.intro, True.intro⟩
  · exact .inl (h.oth j q)
theorem fmod_lt (a : Int) {m : Nat} (h : 1 ≤ m) : ∃ x : Nat, a.fmod (m : Int) = (x : Int) ∧ x < m := by
  have h1 := Int.fmod_nonneg_of_pos a (b := (m : Int)) (by omega)
  have h2 := Int.fmod_lt_of_pos a (b := (m : Int)) (by omega)
  exact ⟨(a.fmod m).toNat, by omega, by omega⟩
theorem St.split {n : Nat} {S T S' : Store} (h : St n (S ++ T) S') (l : n < S.length) : ∃ S1, S' = S1 ++ T ∧ St n S S1 := by
  have hl := h.len
  rw [List.length_append] at hl
  refine ⟨S'.take S.length, ?_, ?_, ?_, ?_⟩
  · refine List.ext_getElem? fun i => ?_
    by_cases q : i < S.length
    · rw [List.getElem?_append_left (by rw [List.length_take]; omega), List.getElem?_take_of_lt q]
    · rw [h.oth i (by omega), List.getElem?_append_right (by omega), List.getElem?_append_right (by rw [List.length_take]; omega)]
      congr 1
      rw [List.length_take]; omega
  · rw [List.length_take]; omega
  · obtain ⟨a, b, c, d, e⟩ := h.box
    exact ⟨a, b, c, d, by rw [List.getElem?_take_of_lt l]; exact e⟩
  · intro j hj
    by_cases q : j < S.length
    · rw [List.getElem?_take_of_lt q, h.oth j hj, List.getElem?_append_left q]
    · rw [List.getElem?_eq_none (by rw [List.length_take]; omega), List.getElem?_eq_none (by omega)]
theorem Bx.app {n : Nat} {S : Store} (h : Bx n S) (T : Store) : Bx n (S ++ T) := by
  have l := h.lt
  obtain ⟨a, b, c, d, e⟩ := h
  exact ⟨a, b, c, d, by rw [List.getElem?_append_left l]; exact e⟩
/-- the store has grown; of what stood only the box has changed -/
structure Lg (n : Nat) (S S' : Store) : Prop where
  len : S.length ≤ S'.length
  box : Bx n S'
  oth : ∀ j, j < S.length → j ≠ n → S'[j]? = S[j]?
theorem Lg.refl {n : Nat} {S : Store} (h : Bx n S) : Lg n S S := ⟨Nat.le_refl _, h, fun _ _ _ => rfl⟩
theorem St.lg {n : Nat} {S S' : Store} (h : St n S S') : Lg n S S' := ⟨Nat.le_of_eq h.len.symm, h.box, fun j _ q => h.oth j q⟩
theorem Lg.trans {n : Nat} {S S1 S2 : Store} (a : Lg n S S1) (b : Lg n S1 S2) : Lg n S S2 := ⟨Nat.le_trans a.len b.len, b.box, fun j h q => (b.oth j (Nat.lt_of_lt_of_le h a.len) q).trans (a.oth j h q)⟩
theorem Lg.app {n : Nat} {S : Store} (h : Bx n S) (T : Store) : Lg n S (S ++ T) := ⟨by simp, h.app T, fun j l _ => by rw [List.getElem?_append_left l]⟩
theorem Lg.kept {n : Nat} {S S' : Store} (h : Lg n S S') : Py.Kept S S' := fun j hj => by
  by_cases q : j = n
  · subst q
    obtain ⟨a, b, c, d, e⟩ := h.box
    exact .inr ⟨_, e, True.intro, True.intro, True.intro, True.intro, True.intro⟩
  · exact .inl (h.oth j hj q)
theorem Lg.cut {n : Nat} {S S' : Store} (h : Lg n S S') (l : n < S.length) : St n S (S'.take S.length) := by
  have hl := h.len
  refine ⟨by rw [List.length_take]; omega, ?_, fun j q => ?_⟩
  · obtain ⟨a, b, c, d, e⟩ := h.box
    exact ⟨a, b, c, d, by rw [List.getElem?_take_of_lt l]; exact e⟩
  · by_cases q' : j < S.length
    · rw [List.getElem?_take_of_lt q', h.oth j q' q]
    · rw [List.getElem?_eq_none (by rw [List.length_take]; omega), List.getElem?_eq_none (by omega)]
theorem set_same {S : Store} {n : Nat} {c : CV} (h : S[n]? = some c) : S.set n c = S := by
  obtain ⟨l, rfl⟩ := List.getElem?_eq_some_iff.mp h
  exact List.set_getElem_self l
theorem map_range_none {n : Nat} {g : Int → D} : (((List.range n).filter fun _ => false).map fun i : Nat => g i) = [] := by simp
theorem intsL_D {n : Nat} : (intsL 0 (n : Int)).map D.int = (List.range n).map fun i : Nat => D.int (i : Int) := by
  unfold intsL
  rw [List.map_map]
  simp only [Int.sub_zero, Int.toNat_natCast]
  refine List.map_congr_left fun i _ => ?_
  show D.int (0 + (i : Int)) = _
  rw [Int.zero_add]
theorem keptC {S : Store} {c : Nat} {C : CV} (h : c < S.length) (b : belowC S.length C) : Py.Kept S (S.set c C) := fun j hj => by
  by_cases e : j = c
  · subst e
    exact .inr ⟨C, List.getElem?_set_self h, b⟩
  · exact .inl (List.getElem?_set_ne (Ne.symm e))
theorem Lg.after {n : Nat} {S S2 S3 : Store} {L : Nat} (h : Lg n S S2) (l3 : S3.length = S2.length) (o : ∀ j, j < L → S3[j]? = S2[j]?) (hL : S.length ≤ L) (ln : n < S.length) : Lg n S S3 := by
  refine ⟨by rw [l3]; exact h.len, ?_, fun j hj q => ?_⟩
  · obtain ⟨a, b, c, d, e⟩ := h.box
    exact ⟨a, b, c, d, by rw [o n (by omega)]; exact e⟩
  · rw [o j (by omega)]
    exact h.oth j hj q
theorem at4_0 (a b c d : D) : atI [a, b, c, d] 0 = some a := rfl
theorem at4_1 (a b c d : D) : atI [a, b, c, d] 1 = some b := rfl
theorem at4_2 (a b c d : D) : atI [a, b, c, d] 2 = some c := rfl
theorem at4_3 (a b c d : D) : atI [a, b, c, d] 3 = some d := rfl
theorem ixN4_0 : ixN 4 0 = some 0 := rfl
theorem ixN4_2 : ixN 4 2 = some 2 := rfl
theorem ixN4_3 : ixN 4 3 = some 3 := rfl
theorem IsL.app {S : Store} {d : D} {xs : List D} (h : IsL S d xs) (T : Store) : IsL (S ++ T) d xs := by
  rcases h with rfl | ⟨n, rfl, e⟩
  · exact .inl rfl
  · exact .inr ⟨n, rfl, by rw [List.getElem?_append_left (List.getElem?_eq_some_iff.mp e).1]; exact e⟩
theorem perm_erase {α : Type} : ∀ {L : List α} {x : Nat} (h : x < L.length), (L[x] :: L.eraseIdx x).Perm L
  | _ :: _, 0, _ => .refl _
  | a :: L, x + 1, h => by
    have h' : x < L.length := by simpa using h
    rw [List.getElem_cons_succ, List.eraseIdx_cons_succ]
    exact (List.Perm.swap _ _ _).trans ((perm_erase h').cons a)
theorem perm_pop {α : Type} {L F xs : List α} {x : Nat} (h : x < L.length) (p : (L ++ F).Perm xs) : (L.eraseIdx x ++ (F ++ [L[x]])).Perm xs := by
  have h1 : (L[x] :: L.eraseIdx x).Perm L := perm_erase h
  have h2 : (L.eraseIdx x ++ (F ++ [L[x]])).Perm (L[x] :: (L.eraseIdx x ++ F)) := by
    rw [← List.append_assoc]
    exact (List.perm_append_comm (l₁ := L.eraseIdx x ++ F) (l₂ := [L[x]]))
  exact h2.trans ((h1.append_right F).trans p)
/-! turns over the items themselves; with no test -/
theorem turns_mT {α : Type} {its : List D} {f : D → M (Option D)} {S : Store} {k : List D → Store → Prop} {kx : Exn → Store → Prop} (h : α → D) (g : α → D) (ks : List α) (q : ∀ a ∈ ks, WO (f (h a) S) fun o S' => o = some (g a) ∧ S' = S) (w : k (ks.map g) S) : WM (turnsW ⟨its, []⟩ f (ks.map h) S) k kx := by
  refine turns_map h (fun _ => true) g ks q ?_
  rw [List.filter_eq_self.mpr fun _ _ => rfl]
  exact w
theorem turns_D {its xs : List D} {f : D → M (Option D)} {S : Store} {k : List D → Store → Prop} {kx : Exn → Store → Prop} (p : D → Bool) (g : D → D) (q : ∀ a ∈ xs, WO (f a S) fun o S' => o = (if p a then some (g a) else none) ∧ S' = S) (w : k ((xs.filter p).map g) S) : WM (turnsW ⟨its, []⟩ f xs S) k kx := by
  have := turns_map (its := its) (kx := kx) (fun d : D => d) p g xs q w
  rwa [List.map_id'] at this
theorem turns_DT {its xs : List D} {f : D → M (Option D)} {S : Store} {k : List D → Store → Prop} {kx : Exn → Store → Prop} (g : D → D) (q : ∀ a ∈ xs, WO (f a S) fun o S' => o = some (g a) ∧ S' = S) (w : k (xs.map g) S) : WM (turnsW ⟨its, []⟩ f xs S) k kx := by
  have := turns_mT (its := its) (kx := kx) (fun d : D => d) g xs q w
  rwa [List.map_id'] at this
end Py
-- PyVd
namespace Py
open PySem PySem.Spec PyProof.Rows L2
/-! ### plain values: so deep, their texts of signs -/
def okV : Nat → D → Bool
  | 0, _ => false
  | _ + 1, .non => true
  | _ + 1, .bl _ => true
  | _ + 1, .int _ => true
  | _ + 1, .str x => PyData.strOk x && decide (x.length ≤ 1000)
  | m + 1, .tup xs => decide (xs.length ≤ 60) && xs.all (okV m)
  | m + 1, .lst xs => decide (xs.length ≤ 60) && xs.all (okV m)
  | _ + 1, _ => false
theorem okV.tup {m : Nat} {xs : List D} (h : okV (m + 1) (.tup xs) = true) : xs.length ≤ 60 ∧ ∀ x ∈ xs, okV m x = true := by
  have h : (decide (xs.length ≤ 60) && xs.all (okV m)) = true := h
  simpa using h
theorem okV.lst {m : Nat} {xs : List D} (h : okV (m + 1) (.lst xs) = true) : xs.length ≤ 60 ∧ ∀ x ∈ xs, okV m x = true := by
  have h : (decide (xs.length ≤ 60) && xs.all (okV m)) = true := h
  simpa using h
theorem okV.str {m : Nat} {x : Str} (h : okV (m + 1) (.str x) = true) : PyData.strOk x = true ∧ x.length ≤ 1000 := by
  have h : (PyData.strOk x && decide (x.length ≤ 1000)) = true := h
  simpa using h
theorem okV.sa : ∀ {m : Nat} {d : D}, okV m d = true → ∀ S, Sa S m d d
  | m + 1, .non, _, S => .non
  | m + 1, .bl b, _, S => .bl b
  | m + 1, .int i, _, S => .int i
  | m + 1, .str x, h, S => .str x (okV.str h).2 (okV.str h).1
  | m + 1, .tup xs, h, S => .tup rfl (by have := (okV.tup h).1; omega) fun i x y e1 e2 => by
    rw [e1] at e2
    cases e2
    exact okV.sa ((okV.tup h).2 x (List.mem_of_getElem? e1)) S
  | m + 1, .lst xs, h, S => .lst (.inl rfl) (.inl rfl) rfl (by have := (okV.lst h).1; omega) fun i x y e1 e2 => by
    rw [e1] at e2
    cases e2
    exact okV.sa ((okV.lst h).2 x (List.mem_of_getElem? e1)) S
theorem okV.pl : ∀ {m : Nat} {d : D}, okV m d = true → Pl (62 * m) d
  | m + 1, .non, _ => ⟨by simp only [fu]; omega, rfl⟩
  | m + 1, .bl b, _ => ⟨by simp only [fu]; omega, rfl⟩
  | m + 1, .int i, _ => ⟨by simp only [fu]; omega, rfl⟩
  | m + 1, .str x, h => ⟨by simp only [fu]; omega, rfl⟩
  | m + 1, .tup xs, h => Pl.tup (m := 62 * m) (fun d hd => okV.pl ((okV.tup h).2 d hd)) (by have := (okV.tup h).1; omega)
  | m + 1, .lst xs, h => Pl.lst (m := 62 * m) (fun d hd => okV.pl ((okV.lst h).2 d hd)) (by have := (okV.lst h).1; omega)
mutual
def pdD : D → PyData
  | .non => .none
  | .bl b => .bool b
  | .int i => .int i
  | .str x => .str x
  | .tup xs => .tuple (pdL xs)
  | .lst xs => .list (pdL xs)
  | _ => .none
def pdL : List D → List PyData
  | [] => []
  | d :: ds => pdD d :: pdL ds
end
theorem pdL_map : ∀ ds : List D, pdL ds = ds.map pdD
  | [] => rfl
  | d :: ds => by rw [pdL, pdL_map ds]; rfl
mutual
theorem toP_pd (S : Store) : ∀ (n m : Nat) (d : D), okV m d = true → fu d ≤ n → toP S n d = some (pdD d)
  | 0, _, d, _, h => by cases d <;> simp [fu] at h
  | n + 1, m, .non, _, _ => rfl
  | n + 1, m, .bl _, _, _ => rfl
  | n + 1, m, .int _, _, _ => rfl
  | n + 1, m, .str _, _, _ => rfl
  | n + 1, m + 1, .tup xs, h, l => by
    show (toPs S n xs).map PyData.tuple = _
    rw [toPs_pd S n m xs (okV.tup h).2 (by simp only [fu] at l; omega)]
    rfl
  | n + 1, m + 1, .lst xs, h, l => by
    show (toPs S n xs).map PyData.list = _
    rw [toPs_pd S n m xs (okV.lst h).2 (by simp only [fu] at l; omega)]
    rfl
  | n + 1, 0, .tup xs, h, _ => by cases h
  | n + 1, 0, .lst xs, h, _ => by cases h
  | n + 1, 0, .ins _ _ _, h, _ => by cases h
  | n + 1, 0, .scr _, h, _ => by cases h
  | n + 1, 0, .cell _, h, _ => by cases h
  | n + 1, m + 1, .ins _ _ _, h, _ => by cases h
  | n + 1, m + 1, .scr _, h, _ => by cases h
  | n + 1, m + 1, .cell _, h, _ => by cases h
theorem toPs_pd (S : Store) : ∀ (n m : Nat) (ds : List D), (∀ d ∈ ds, okV m d = true) → fuL ds ≤ n → toPs S n ds = some (pdL ds)
  | 0, _, ds, _, h => by cases ds <;> simp [fuL] at h
  | n + 1, m, [], _, _ => rfl
  | n + 1, m, d :: ds, h, l => by
    simp only [fuL] at l
    show (match toP S n d, toPs S n ds with
      | some p, some ps => some (p :: ps)
      | _, _ => none) = _
    rw [toP_pd S n m d (h d List.mem_cons_self) (by omega), toPs_pd S n m ds (fun x hx => h x (List.mem_cons_of_mem _ hx)) (by omega)]
    rfl
end
theorem lay_all : ∀ {ds : List D}, (∀ d ∈ ds, PyData.canLay0 (pdD d) = true) → PyData.canLayAll0 (pdL ds) = true
  | [], _ => rfl
  | d :: ds, h => by
    rw [pdL, PyData.canLayAll0, h d List.mem_cons_self, lay_all fun x hx => h x (List.mem_cons_of_mem _ hx)]
    rfl
theorem dep_all {m : Nat} : ∀ {ds : List D}, (∀ d ∈ ds, PyData.depth (pdD d) ≤ m) → PyData.depthAll (pdL ds) ≤ m
  | [], _ => by rw [pdL, PyData.depthAll]; omega
  | d :: ds, h => by
    have := dep_all fun x hx => h x (List.mem_cons_of_mem _ hx)
    have := h d List.mem_cons_self
    rw [pdL, PyData.depthAll]
    omega
theorem okV.lay : ∀ {m : Nat} {d : D}, okV m d = true → PyData.canLay0 (pdD d) = true ∧ PyData.depth (pdD d) ≤ m
  | m + 1, .non, _ => ⟨rfl, by simp [pdD, PyData.depth]⟩
  | m + 1, .bl b, _ => ⟨rfl, by simp [pdD, PyData.depth]⟩
  | m + 1, .int i, _ => ⟨rfl, by simp [pdD, PyData.depth]⟩
  | m + 1, .str x, h => ⟨(okV.str h).1, by simp [pdD, PyData.depth]⟩
  | m + 1, .tup xs, h => by
    refine ⟨?_, ?_⟩
    · rw [pdD, PyData.canLay0]
      exact lay_all fun d hd => (okV.lay ((okV.tup h).2 d hd)).1
    · rw [pdD, PyData.depth]
      have := dep_all (m := m) fun d hd => (okV.lay ((okV.tup h).2 d hd)).2
      omega
  | m + 1, .lst xs, h => by
    refine ⟨?_, ?_⟩
    · rw [pdD, PyData.canLay0]
      exact lay_all fun d hd => (okV.lay ((okV.lst h).2 d hd)).1
    · rw [pdD, PyData.depth]
      have := dep_all (m := m) fun d hd => (okV.lay ((okV.lst h).2 d hd)).2
      omega
def eqB (a b : D) : Bool := PyData.eqv (pdD a) (pdD b)
theorem okV.shaped {m : Nat} {d : D} (h : okV m d = true) (l : m ≤ 16) : SeqAt.shaped (pdD d) = true := by
  unfold SeqAt.shaped
  have := (okV.lay h).2
  rw [(okV.lay h).1, decide_eq_true (by omega)]
  rfl
theorem eqD_ok {m n : Nat} {a b : D} (S : Store) (ha : okV m a = true) (hb : okV n b = true) (hm : m ≤ 16) (hn : n ≤ 16) : eqD S a b = some (eqB a b) := by
  unfold eqD
  rw [toP_pd S 1000 m a ha (by have := (okV.pl ha).1; omega), toP_pd S 1000 n b hb (by have := (okV.pl hb).1; omega)]
  show (if (SeqAt.shaped (pdD a) && SeqAt.shaped (pdD b)) = true then some (PyData.eqv (pdD a) (pdD b)) else none) = _
  rw [okV.shaped ha hm, okV.shaped hb hn]
  rfl
theorem eqB_comm (a b : D) : eqB a b = eqB b a := PySem.W.eqv_comm _ _
theorem eqB_refl {m : Nat} {a : D} (h : okV m a = true) : eqB a a = true := PySem.SeqAt.eqv_refl _ (okV.lay h).1
theorem Sa.up {S : Store} {m : Nat} {a b : D} (h : Sa S m a b) : Sa S (m + 1) a b := by
  induction h with
  | non => exact .non
  | bl b => exact .bl b
  | int i => exact .int i
  | str x h1 h2 => exact .str x h1 h2
  | tup h1 h2 h3 ih => exact .tup h1 h2 ih
  | lst h1 h2 h3 h4 h5 ih => exact .lst h1 h2 h3 h4 ih
  | dic h1 h2 h3 h4 ih => exact .dic h1 h2 h3 ih
theorem Sa.mono {S : Store} {m m' : Nat} {a b : D} (h : Sa S m a b) (l : m ≤ m') : Sa S m' a b := by
  obtain ⟨k, rfl⟩ : ∃ k, m' = m + k := ⟨m' - m, by omega⟩
  clear l
  induction k with
  | zero => exact h
  | succ k ih => exact ih.up
theorem belowL_mem {n : Nat} : ∀ {xs : List D}, (∀ x ∈ xs, Py.below n x) → Py.belowL n xs
  | [], _ => True.intro
  | x :: xs, h => ⟨h x List.mem_cons_self, belowL_mem fun y hy => h y (List.mem_cons_of_mem _ hy)⟩
theorem okV_below (n : Nat) : ∀ {m : Nat} {d : D}, okV m d = true → Py.below n d
  | m + 1, .non, _ => True.intro
  | m + 1, .bl b, _ => True.intro
  | m + 1, .int i, _ => True.intro
  | m + 1, .str x, h => True.intro
  | m + 1, .tup xs, h => belowL_mem fun d hd => okV_below n ((okV.tup h).2 d hd)
  | m + 1, .lst xs, h => belowL_mem fun d hd => okV_below n ((okV.lst h).2 d hd)
theorem fzF_one {S : Store} {n : Nat} {f : Str} {d : D} (h : fzD S n 1000 d = some d) : fzF S n [(f, d)] = some [(f, d)] := by
  unfold fzF
  rw [h]
  rfl
theorem eqD_cell_nil {S : Store} {c m : Nat} {pl : List D} (e : S[c]? = some (.lst pl)) (h : ∀ d ∈ pl, okV m d = true) (hm : m ≤ 5) (hl : pl.length ≤ 600) : eqD S (.cell c) (.lst []) = some (decide (pl = [])) := by
  have e1 : toP S 1000 (.cell c) = some (.list (pdL pl)) := by
    show (match S[c]? with
      | some (.lst xs) => (toPs S 999 xs).map PyData.list
      | _ => none) = _
    rw [e]
    show (toPs S 999 pl).map PyData.list = _
    rw [toPs_pd S 999 m pl h (by have := fuL_le (m := 62 * m) fun d hd => (okV.pl (h d hd)).1; omega)]
    rfl
  have sh : SeqAt.shaped (.list (pdL pl)) = true := by
    unfold SeqAt.shaped
    have := dep_all (m := m) fun d hd => (okV.lay (h d hd)).2
    rw [PyData.canLay0, PyData.depth, lay_all fun d hd => (okV.lay (h d hd)).1, decide_eq_true (by omega)]
    rfl
  unfold eqD
  rw [e1]
  show (if (SeqAt.shaped (.list (pdL pl)) && SeqAt.shaped (.list [])) = true then some (PyData.eqv (.list (pdL pl)) (.list [])) else none) = _
  rw [sh]
  cases pl <;> rfl
end Py
-- PyNm
namespace Py
open PySem PySem.Spec PyProof.Rows L2
/-! ### names, sides, polygons -/
def abc : Str := "abcdefghijklmnopqrstuvwxyz"
def nmB (x : Str) : Bool := decide (1 ≤ x.length) && (decide (x.length ≤ 12) && x.cps.toList.all fun c => decide (c ∈ abc.cps.toList))
def nmD : D → Bool
  | .str x => nmB x
  | _ => false
def sideB : D → Bool
  | .tup [.str x, .int i] => nmB x && (decide (i = 1) || decide (i = -1))
  | .str x => nmB x
  | _ => false
theorem eq_of_WO {α : Type} {r : Out α} {a : α} {S : Store} (h : WO r fun d S' => d = a ∧ S' = S) : r = .ok a S := by
  obtain ⟨d, S', e, rfl, rfl⟩ := WO.ex h
  exact e
theorem ret_bl {S : Store} {b b' : Bool} (h : b = b') : WM (retF true S (.bl b) S) (fun d S' => d = .bl b' ∧ S' = S) fun _ _ => False := WM_ret2 rfl ⟨by rw [h], rfl⟩
theorem isin_one {c : Nat} {z : Str} {S : Store} : isInD (.str ⟨#[c]⟩) (.str z) S = .ok (decide (c ∈ z.cps.toList)) S := rfl
theorem eqD_filt (S : Store) (p : Nat → Bool) (l : List Nat) (hl : l.length ≤ 900) (h : ∀ c ∈ l, PyData.strOk ⟨#[c]⟩ = true) : eqD S (.lst ((l.filter p).map fun c => D.str ⟨#[c]⟩)) (.lst []) = some (decide (l.filter p = [])) := by
  have e : toP S 1000 (.lst ((l.filter p).map fun c => D.str ⟨#[c]⟩)) = some (.list (((l.filter p).map fun c : Nat => (⟨#[c]⟩ : Str)).map PyData.str)) := by
    show (toPs S 999 ((l.filter p).map fun c => D.str ⟨#[c]⟩)).map PyData.list = _
    have : ((l.filter p).map fun c => D.str ⟨#[c]⟩) = ((l.filter p).map fun c : Nat => (⟨#[c]⟩ : Str)).map D.str := by rw [List.map_map]; rfl
    rw [this, toPs_strs S _ 999 (by rw [List.length_map]; have := List.length_filter_le p l; omega)]
    rfl
  have lay : ∀ xs : List Str, (∀ x ∈ xs, PyData.strOk x = true) → PyData.canLayAll0 (xs.map PyData.str) = true := fun xs => by
    induction xs with
    | nil => intro _; rfl
    | cons a r ih => intro h; simp only [List.map_cons, PyData.canLayAll0, PyData.canLay0, h a List.mem_cons_self, Bool.true_and]; exact ih fun x hx => h x (List.mem_cons_of_mem _ hx)
  have dep : ∀ xs : List Str, PyData.depthAll (xs.map PyData.str) = 0 := fun xs => by
    induction xs with
    | nil => rfl
    | cons a r ih => simp only [List.map_cons, PyData.depthAll, PyData.depth, ih]; rfl
  have sh : SeqAt.shaped (.list (((l.filter p).map fun c : Nat => (⟨#[c]⟩ : Str)).map PyData.str)) = true := by
    unfold SeqAt.shaped
    rw [PyData.canLay0, PyData.depth, dep, lay _ fun x hx => ?_]
    · rfl
    · obtain ⟨c, hc, rfl⟩ := List.mem_map.mp hx
      exact h c (List.mem_filter.mp hc).1
  unfold eqD
  rw [e]
  show (if (SeqAt.shaped (.list (((l.filter p).map fun c : Nat => (⟨#[c]⟩ : Str)).map PyData.str)) && SeqAt.shaped (.list [])) = true then some (PyData.eqv (.list (((l.filter p).map fun c : Nat => (⟨#[c]⟩ : Str)).map PyData.str)) (.list [])) else none) = _
  rw [sh]
  cases l.filter p <;> rfl
/-! ### which come first -/
def firsts (xs : List Str) : List Str := xs.foldl (fun acc x => if x ∈ acc then acc else acc ++ [x]) []
theorem firsts_add (xs : List Str) (x : Str) : firsts (xs ++ [x]) = if x ∈ firsts xs then firsts xs else firsts xs ++ [x] := by
  unfold firsts
  rw [List.foldl_append]
  rfl
theorem mem_firsts' : ∀ (xs acc : List Str) (x : Str), x ∈ xs.foldl (fun acc x => if x ∈ acc then acc else acc ++ [x]) acc ↔ x ∈ acc ∨ x ∈ xs
  | [], acc, x => by simp
  | y :: ys, acc, x => by
    rw [List.foldl_cons, mem_firsts' ys]
    by_cases h : y ∈ acc
    · rw [if_pos h]
      constructor
      · rintro (q | q)
        · exact .inl q
        · exact .inr (List.mem_cons_of_mem _ q)
      · rintro (q | q)
        · exact .inl q
        · rcases List.mem_cons.mp q with rfl | q
          · exact .inl h
          · exact .inr q
    · rw [if_neg h, List.mem_append, List.mem_singleton, List.mem_cons, or_assoc]
theorem mem_firsts {xs : List Str} {x : Str} : x ∈ firsts xs ↔ x ∈ xs := by
  unfold firsts
  rw [mem_firsts']
  simp
theorem nodup_firsts' : ∀ (xs acc : List Str), acc.Nodup → (xs.foldl (fun acc x => if x ∈ acc then acc else acc ++ [x]) acc).Nodup
  | [], acc, h => h
  | y :: ys, acc, h => by
    rw [List.foldl_cons]
    refine nodup_firsts' ys _ ?_
    by_cases q : y ∈ acc
    · rw [if_pos q]; exact h
    · rw [if_neg q]
      refine List.nodup_append.mpr ⟨h, by simp, fun a ha b hb e => ?_⟩
      rw [List.mem_singleton] at hb
      subst hb; subst e
      exact q ha
theorem nodup_firsts (xs : List Str) : (firsts xs).Nodup := nodup_firsts' xs [] List.nodup_nil
theorem len_firsts' : ∀ (xs acc : List Str), (xs.foldl (fun acc x => if x ∈ acc then acc else acc ++ [x]) acc).length ≤ acc.length + xs.length
  | [], acc => by simp
  | y :: ys, acc => by
    rw [List.foldl_cons]
    have := len_firsts' ys (if y ∈ acc then acc else acc ++ [y])
    split at this <;> split <;> simp_all <;> omega
theorem len_firsts (xs : List Str) : (firsts xs).length ≤ xs.length := by
  have := len_firsts' xs []
  unfold firsts
  simpa using this
theorem valD_map {f : Str → D} {y : Str} : ∀ {ks : List Str}, valD (ks.map fun x => (Sum.inr x, f x)) (.inr y) = if y ∈ ks then some (f y) else none
  | [] => rfl
  | x :: ks => by
    have ih := valD_map (f := f) (y := y) (ks := ks)
    unfold valD at ih ⊢
    rw [List.map_cons, List.find?_cons]
    by_cases e : x = y
    · subst e
      simp
    · have e1 : decide ((Sum.inr x : Key) = .inr y) = false := decide_eq_false fun h => e (Sum.inr.inj h)
      simp only [e1]
      rw [ih]
      have e2 : y ≠ x := fun h => e h.symm
      simp [e2]
theorem putD_map {f : Str → D} {y : Str} {v : D} {ks : List Str} : putD (ks.map fun x => (Sum.inr x, f x)) (.inr y) v = (if y ∈ ks then ks else ks ++ [y]).map fun x => (Sum.inr x, if x = y then v else f x) := by
  unfold putD
  have e : ((ks.map fun x => ((Sum.inr x : Key), f x)).any fun kv => decide (kv.1 = .inr y)) = decide (y ∈ ks) := by
    rw [Bool.eq_iff_iff, List.any_eq_true, decide_eq_true_iff]
    constructor
    · rintro ⟨p, hp, h⟩
      obtain ⟨x, hx, rfl⟩ := List.mem_map.mp hp
      have : x = y := Sum.inr.inj (of_decide_eq_true h)
      exact this ▸ hx
    · intro h
      exact ⟨_, List.mem_map.mpr ⟨y, h, rfl⟩, by simp⟩
  rw [e]
  by_cases h : y ∈ ks
  · rw [if_pos (decide_eq_true h), if_pos h, List.map_map]
    refine List.map_congr_left fun x hx => ?_
    show (if (Sum.inr x : Key) = .inr y then ((Sum.inr x : Key), v) else (.inr x, f x)) = _
    by_cases q : x = y
    · subst q; simp
    · rw [if_neg fun h => q (Sum.inr.inj h), if_neg q]
  · rw [if_neg (by simp [h]), if_neg h, List.map_append]
    congr 1
    · refine List.map_congr_left fun x hx => ?_
      rw [if_neg fun (q : x = y) => h (q ▸ hx)]
    · simp
/-! ### the places of glued names -/
def gluP (at_ : Nat) : Nat → List D → List (Str × D)
  | _, [] => []
  | place, .tup [.str x, .int _] :: r => (x, .tup [.int at_, .int place]) :: gluP at_ (place + 1) r
  | place, _ :: r => gluP at_ (place + 1) r
def gluA : Nat → List (List D) → List (Str × D)
  | _, [] => []
  | at_, p :: r => gluP at_ 0 p ++ gluA (at_ + 1) r
structure Sp (S0 : Store) (done : List (Str × D)) (c : Str → Nat) (S : Store) : Prop where
  dict : S[S0.length]? = some (.dic false ((firsts (done.map (·.1))).map fun x => (Sum.inr x, D.cell (c x))))
  old : ∀ j, j < S0.length → S[j]? = S0[j]?
  it : ∀ x ∈ done.map (·.1), S0.length < c x ∧ S[c x]? = some (.lst ((done.filter fun p => p.1 = x).map (·.2)))
  inj : ∀ x ∈ done.map (·.1), ∀ y ∈ done.map (·.1), c x = c y → x = y
theorem Sp.lt {S0 S : Store} {done : List (Str × D)} {c : Str → Nat} (h : Sp S0 done c S) : S0.length < S.length := (List.getElem?_eq_some_iff.mp h.dict).1
theorem Sp.init (S : Store) (c : Str → Nat) : Sp S [] c (S ++ [CV.dic false []]) := ⟨by rw [at_app0]; rfl, fun j h => by rw [List.getElem?_append_left h], fun x h => (by cases h), fun x h => (by cases h)⟩
/-- a name that has been seen -/
theorem Sp.seen {S0 S : Store} {done : List (Str × D)} {c : Str → Nat} (h : Sp S0 done c S) {x : Str} {d : D} (hx : x ∈ done.map (·.1)) : Sp S0 (done ++ [(x, d)]) c ((S ++ [CV.lst []]).set (c x) (CV.lst ((done.filter fun p => p.1 = x).map (·.2) ++ [d]))) := by
  obtain ⟨h1, h2⟩ := h.it x hx
  have hl := (List.getElem?_eq_some_iff.mp h2).1
  have hm : ∀ y, y ∈ (done ++ [(x, d)]).map (·.1) → y ∈ done.map (·.1) := fun y hy => by
    rw [List.map_append, List.mem_append] at hy
    rcases hy with hy | hy
    · exact hy
    · have : y = x := by simpa using hy
      exact this ▸ hx
  refine ⟨?_, fun j hj => ?_, fun y hy => ?_, fun y hy z hz e => h.inj y (hm y hy) z (hm z hz) e⟩
  · have e : firsts ((done ++ [(x, d)]).map (·.1)) = firsts (done.map (·.1)) := by
      rw [List.map_append]
      show firsts (done.map (·.1) ++ [x]) = _
      rw [firsts_add, if_pos (mem_firsts.mpr hx)]
    rw [e, List.getElem?_set_ne (by omega), List.getElem?_append_left h.lt]
    exact h.dict
  · rw [List.getElem?_set_ne (by omega), List.getElem?_append_left (by have := h.lt; omega)]
    exact h.old j hj
  · have hy' := hm y hy
    obtain ⟨g1, g2⟩ := h.it y hy'
    refine ⟨g1, ?_⟩
    by_cases e : y = x
    · subst e
      rw [List.getElem?_set_self (by rw [List.length_append]; omega), List.filter_append, List.map_append]
      simp
    · have ne : c x ≠ c y := fun q => e (h.inj _ hx _ hy' q).symm
      rw [List.getElem?_set_ne ne, List.getElem?_append_left (List.getElem?_eq_some_iff.mp g2).1, g2, List.filter_append, List.map_append]
      have : (([(x, d)] : List (Str × D)).filter fun p => p.1 = y) = [] := by simp [Ne.symm e]
      rw [this]
      simp
theorem Sp.newN {S0 S : Store} {done : List (Str × D)} {c : Str → Nat} (h : Sp S0 done c S) {x : Str} {d : D} (hx : x ∉ done.map (·.1)) :
    Sp S0 (done ++ [(x, d)]) (fun y => if y = x then S.length else c y) (((S ++ [CV.lst []]).set S0.length (CV.dic false (putD ((firsts (done.map (·.1))).map fun x => (Sum.inr x, D.cell (c x))) (.inr x) (D.cell S.length)))).set S.length (CV.lst ([] ++ [d]))) := by
  have hlt := h.lt
  have hm : ∀ y, y ∈ (done ++ [(x, d)]).map (·.1) → y ∈ done.map (·.1) ∨ y = x := fun y hy => by
    rw [List.map_append, List.mem_append] at hy
    rcases hy with hy | hy
    · exact .inl hy
    · exact .inr (by simpa using hy)
  have hcl : ∀ y ∈ done.map (·.1), c y < S.length := fun y hy => (List.getElem?_eq_some_iff.mp (h.it y hy).2).1
  refine ⟨?_, fun j hj => ?_, fun y hy => ?_, fun y hy z hz e => ?_⟩
  · rw [List.getElem?_set_ne (by omega), List.getElem?_set_self (by rw [List.length_append]; omega), putD_map, if_neg (fun q => hx (mem_firsts.mp q))]
    have e : firsts ((done ++ [(x, d)]).map (·.1)) = firsts (done.map (·.1)) ++ [x] := by
      rw [List.map_append]
      show firsts (done.map (·.1) ++ [x]) = _
      rw [firsts_add, if_neg fun q => hx (mem_firsts.mp q)]
    rw [e]
    congr 3
    funext y
    by_cases q : y = x
    · simp [q]
    · simp [q]
  · rw [List.getElem?_set_ne (by omega), List.getElem?_set_ne (by omega), List.getElem?_append_left (by omega)]
    exact h.old j hj
  · rcases hm y hy with hy' | rfl
    · have e : y ≠ x := fun q => hx (q ▸ hy')
      obtain ⟨g1, g2⟩ := h.it y hy'
      have := hcl y hy'
      rw [if_neg e]
      refine ⟨g1, ?_⟩
      rw [List.getElem?_set_ne (by omega), List.getElem?_set_ne (by omega), List.getElem?_append_left (by omega), g2, List.filter_append, List.map_append]
      have : (([(x, d)] : List (Str × D)).filter fun p => p.1 = y) = [] := by simp [Ne.symm e]
      rw [this]
      simp
    · rw [if_pos rfl]
      refine ⟨hlt, ?_⟩
      have e0 : done.filter (fun p => p.1 = y) = [] := List.filter_eq_nil_iff.mpr fun p hp q => hx (List.mem_map.mpr ⟨p, hp, of_decide_eq_true q⟩)
      rw [List.getElem?_set_self (by simp), List.filter_append, e0]
      simp
  · have key : ∀ {y z : Str}, y ∈ done.map (·.1) → z = x → (if y = x then S.length else c y) = (if z = x then S.length else c z) → y = z := fun {y z} hy' hz' e => by
      subst hz'
      have ne : y ≠ z := fun q => hx (q ▸ hy')
      rw [if_neg ne, if_pos rfl] at e
      have := hcl y hy'
      omega
    rcases hm y hy with hy' | rfl
    · rcases hm z hz with hz' | rfl
      · have n1 : y ≠ x := fun q => hx (q ▸ hy')
        have n2 : z ≠ x := fun q => hx (q ▸ hz')
        rw [if_neg n1, if_neg n2] at e
        exact h.inj y hy' z hz' e
      · exact key hy' rfl e
    · rcases hm z hz with hz' | rfl
      · exact (key hz' rfl e.symm).symm
      · rfl
theorem WO_bindt {is : List Nat} {xs : List D} {env : Env} {S : Store} {k : Env → Store → Prop} (h : xs.length = is.length) : WO (bindT (.tp is) (.tup xs) env S) k = k (setAll env is xs) S := by
  have e : bindT (.tp is) (.tup xs) env S = .ok (setAll env is xs) S := by
    show (if xs.length = is.length then M.pure ((is.zip xs).foldl (fun en p => en.set p.1 (some p.2)) env) else M.fail) S = _
    rw [if_pos h]
    rfl
  rw [e]
  unfold WO
  rw [WM_ok]
/-! ### polygons -/
def itemsT : D → List D
  | .tup xs => xs
  | _ => []
def nameOf : D → Option Str
  | .tup [.str x, .int _] => some x
  | _ => none
def namesP (p : List D) : List Str := p.filterMap nameOf
def namesA (ps : List (List D)) : List Str := ps.flatMap namesP
def polyB : D → Bool
  | .tup xs => decide (xs.length ≤ 24) && xs.all sideB
  | _ => false
def polysB : D → Bool
  | .tup ps => decide (ps.length ≤ 12) && (ps.all polyB && (decide ((ps.map fun p => (itemsT p).length).sum ≤ 40) && (decide ((firsts (namesA (ps.map itemsT))).length ≤ 8) && (firsts (namesA (ps.map itemsT))).all fun x => decide ((namesA (ps.map itemsT)).count x = 2))))
  | _ => false
theorem gluP_names (a : Nat) : ∀ (p : List D) (i : Nat), (gluP a i p).map (·.1) = namesP p
  | [], _ => rfl
  | d :: r, i => by
    unfold gluP namesP
    split
    · rename_i h
      cases h
    · rename_i h
      obtain ⟨rfl, rfl⟩ := List.cons.inj h
      rw [List.map_cons, gluP_names a _ _]
      rfl
    · rename_i h1 h
      obtain ⟨rfl, rfl⟩ := List.cons.inj h
      rw [gluP_names a _ _]
      have : nameOf d = none := by
        unfold nameOf
        split
        · exact (h1 _ _ rfl).elim
        · rfl
      rw [List.filterMap_cons, this]
      rfl
theorem gluA_names : ∀ (ps : List (List D)) (i : Nat), (gluA i ps).map (·.1) = namesA ps
  | [], _ => rfl
  | p :: r, i => by
    rw [gluA, List.map_append, gluP_names, gluA_names r]
    rfl
theorem namesP_len (p : List D) : (namesP p).length ≤ p.length := List.length_filterMap_le _ _
theorem filt_count {l : List (Str × D)} {x : Str} : ((l.filter fun p => p.1 = x).map (·.2)).length = (l.map (·.1)).count x := by
  induction l with
  | nil => rfl
  | cons a r ih =>
    rw [List.map_cons, List.count_cons, List.filter_cons]
    by_cases e : a.1 = x
    · simp [e, ← ih]
    · simp [e, ← ih]
/-- new objects are dropped -/
theorem WM_retT {S S' : Store} {d d' : D} {k : D → Store → Prop} {kx : Exn → Store → Prop} (hl : S.length ≤ S'.length) (h : ∀ j, j < S.length → S'[j]? = S[j]?) (e : fzD S' S.length 1000 d = some d') (q : k d' S) : WM (retF true S d S') k kx := by
  refine WM_ret1 (fun j hj => .inl (h j hj)) e ?_
  have : S'.take S.length = S := by
    refine List.ext_getElem? fun i => ?_
    by_cases l : i < S.length
    · rw [List.getElem?_take_of_lt l, h i l]
    · rw [List.getElem?_eq_none (by rw [List.length_take]; omega), List.getElem?_eq_none (by omega)]
  rw [this]
  exact q
theorem ret_blT {S S' : Store} {b b' : Bool} (hl : S.length ≤ S'.length) (h : ∀ j, j < S.length → S'[j]? = S[j]?) (e : b = b') : WM (retF true S (.bl b) S') (fun d S' => d = .bl b' ∧ S' = S) fun _ _ => False := WM_retT hl h rfl ⟨by rw [e], rfl⟩
theorem polyB_tup {d : D} (h : polyB d = true) : d = .tup (itemsT d) ∧ (itemsT d).length ≤ 24 ∧ ∀ s ∈ itemsT d, sideB s = true := by
  cases d with
  | tup xs =>
    have h : (decide (xs.length ≤ 24) && xs.all sideB) = true := h
    have h2 : xs.length ≤ 24 ∧ ∀ s ∈ xs, sideB s = true := by simpa using h
    exact ⟨rfl, h2⟩
  | _ => cases h
theorem namesA_len {n : Nat} : ∀ {ps : List (List D)}, (∀ p ∈ ps, p.length ≤ n) → (namesA ps).length ≤ n * ps.length
  | [], _ => by simp [namesA]
  | p :: r, h => by
    have h1 := namesA_len fun q hq => h q (List.mem_cons_of_mem _ hq)
    have h2 := h p List.mem_cons_self
    have h3 := namesP_len p
    have : namesA (p :: r) = namesP p ++ namesA r := rfl
    rw [this, List.length_append, List.length_cons, Nat.mul_add, Nat.mul_one]
    omega
theorem sum_cast {α : Type} (f : α → Nat) : ∀ l : List α, (l.map fun a => (f a : Int)).sum = ((l.map f).sum : Nat)
  | [] => rfl
  | a :: r => by rw [List.map_cons, List.map_cons, List.sum_cons, List.sum_cons, sum_cast f r]; omega
theorem eqD_strs (S : Store) (xs : List Str) (hl : xs.length ≤ 900) (h : ∀ x ∈ xs, PyData.strOk x = true) : eqD S (.lst (xs.map .str)) (.lst []) = some (decide (xs = [])) := by
  have e : toP S 1000 (.lst (xs.map .str)) = some (.list (xs.map PyData.str)) := by
    show (toPs S 999 (xs.map .str)).map PyData.list = _
    rw [toPs_strs S _ 999 (by omega)]
    rfl
  have lay : ∀ xs : List Str, (∀ x ∈ xs, PyData.strOk x = true) → PyData.canLayAll0 (xs.map PyData.str) = true := fun xs => by
    induction xs with
    | nil => intro _; rfl
    | cons a r ih => intro h; simp only [List.map_cons, PyData.canLayAll0, PyData.canLay0, h a List.mem_cons_self, Bool.true_and]; exact ih fun x hx => h x (List.mem_cons_of_mem _ hx)
  have dep : ∀ xs : List Str, PyData.depthAll (xs.map PyData.str) = 0 := fun xs => by
    induction xs with
    | nil => rfl
    | cons a r ih => simp only [List.map_cons, PyData.depthAll, PyData.depth, ih]; rfl
  have sh : SeqAt.shaped (.list (xs.map PyData.str)) = true := by
    unfold SeqAt.shaped
    rw [PyData.canLay0, PyData.depth, dep, lay _ h]
    rfl
  unfold eqD
  rw [e]
  show (if (SeqAt.shaped (.list (xs.map PyData.str)) && SeqAt.shaped (.list [])) = true then some (PyData.eqv (.list (xs.map PyData.str)) (.list [])) else none) = _
  rw [sh]
  cases xs <;> rfl
theorem nm_ok {x : Str} (h : nmB x = true) : PyData.strOk x = true := by
  unfold nmB at h
  simp only [Bool.and_eq_true] at h
  unfold PyData.strOk
  rw [← Array.all_toList, List.all_eq_true]
  intro c hc
  have h1 := of_decide_eq_true (List.all_eq_true.mp h.2.2 c hc)
  have h2 : ∀ c ∈ abc.cps.toList, decide (c < 1114112) = true := by decide +kernel
  exact h2 c h1
/-- how often each name -/
def dc (ns : List Str) : List (Key × D) := (firsts ns).map fun x => (Sum.inr x, D.int (ns.count x : Nat))
theorem dc_len (ns : List Str) : (dc ns).length = (firsts ns).length := List.length_map ..
theorem dc_val (ns : List Str) (x : Str) : valD (dc ns) (.inr x) = if x ∈ firsts ns then some (D.int (ns.count x : Nat)) else none := valD_map (f := fun x => D.int (ns.count x : Nat))
theorem dc_get (ns : List Str) (x : Str) : (valD (dc ns) (.inr x)).getD (.int 0) = .int (ns.count x : Nat) := by
  rw [dc_val]
  by_cases h : x ∈ firsts ns
  · rw [if_pos h]; rfl
  · rw [if_neg h, List.count_eq_zero.mpr fun q => h (mem_firsts.mpr q)]; rfl
theorem dc_put (ns : List Str) (x : Str) : putD (dc ns) (.inr x) (.int ((ns.count x : Nat) + 1 : Int)) = dc (ns ++ [x]) := by
  unfold dc
  rw [putD_map (f := fun x => D.int (ns.count x : Nat)), firsts_add]
  refine List.map_congr_left fun y hy => ?_
  by_cases e : y = x
  · subst e
    simp
  · simp [e, List.count_append, Ne.symm e]
theorem dc_keys (ns : List Str) : (keysS (dc ns)).items = (firsts ns).map D.str := by
  show (dc ns).map (fun kv => keyD kv.1) = _
  unfold dc
  rw [List.map_map]
  rfl
theorem dc_ix {S : Store} {n : Nat} {b : Bool} {ns : List Str} (h : S[n]? = some (.dic b (dc ns))) {x : Str} (hx : x ∈ firsts ns) : opIx (.cell n) (.str x) S = .ok (.int (ns.count x : Nat)) S := xix_key (k := .inr x) h (by rw [dc_val, if_pos hx])
theorem namesP_app (a b : List D) : namesP (a ++ b) = namesP a ++ namesP b := List.filterMap_append ..
theorem namesA_app (a b : List (List D)) : namesA (a ++ b) = namesA a ++ namesA b := List.flatMap_append ..
theorem namesA_one (p : List D) : namesA [p] = namesP p := by simp [namesA]
theorem namesP_nm {p : List D} (h : ∀ d ∈ p, sideB d = true) : ∀ x ∈ namesP p, nmB x = true := fun x hx => by
  obtain ⟨d, hd, e⟩ := List.mem_filterMap.mp hx
  have hs := h d hd
  unfold nameOf at e
  split at e
  · cases e
    unfold sideB at hs
    simp only [Bool.and_eq_true] at hs
    exact hs.1
  · cases e
theorem namesA_nm {ps : List (List D)} (h : ∀ p ∈ ps, ∀ d ∈ p, sideB d = true) : ∀ x ∈ namesA ps, nmB x = true := fun x hx => by
  obtain ⟨p, hp, e⟩ := List.mem_flatMap.mp hx
  exact namesP_nm (h p hp) x e
end Py
-- PyFm
namespace Py
open PySem PySem.Spec PyProof.Rows L2
/-! ### films that are drawn -/
structure Fm (a b : Nat) (Ls : List (List D)) : Prop where
  len : Ls.length ≤ a
  tot : Ls.flatten.length ≤ b
  ok : ∀ p ∈ Ls, ∀ d ∈ p, okV 2 d = true ∧ sideB d = true
  nm : ∃ ns : List Str, ns.Nodup ∧ ns.length ≤ 8 ∧ (namesA Ls).Perm (ns ++ ns)
theorem count_one : ∀ {ns : List Str} {x : Str}, ns.Nodup → x ∈ ns → ns.count x = 1
  | a :: r, x, hn, hx => by
    obtain ⟨h1, h2⟩ := List.nodup_cons.mp hn
    rw [List.count_cons]
    by_cases e : a = x
    · subst e
      rw [List.count_eq_zero.mpr h1]
      simp
    · have : x ∈ r := by
        rcases List.mem_cons.mp hx with h | h
        · exact absurd h.symm e
        · exact h
      rw [count_one h2 this]
      simp [e]
theorem namesA_flat (Ls : List (List D)) : namesA Ls = namesP Ls.flatten := by
  induction Ls with
  | nil => rfl
  | cons p r ih =>
    rw [List.flatten_cons, namesP_app, ← ih]
    rfl
theorem namesP_perm {a b : List D} (h : a.Perm b) : (namesP a).Perm (namesP b) := h.filterMap _
theorem len_of_mem {Ls : List (List D)} {p : List D} (h : p ∈ Ls) : p.length ≤ Ls.flatten.length := by
  induction Ls with
  | nil => cases h
  | cons q r ih =>
    rw [List.flatten_cons, List.length_append]
    rcases List.mem_cons.mp h with rfl | h
    · omega
    · have := ih h; omega
theorem firsts_same {xs ys : List Str} (h : ∀ x, x ∈ xs ↔ x ∈ ys) : (firsts xs).Perm (firsts ys) :=
  (List.perm_ext_iff_of_nodup (nodup_firsts xs) (nodup_firsts ys)).mpr fun x => by rw [mem_firsts, mem_firsts, h]
theorem firsts_len {xs ys : List Str} (hn : ys.Nodup) (h : ∀ x, x ∈ xs ↔ x ∈ ys) : (firsts xs).length = ys.length :=
  ((List.perm_ext_iff_of_nodup (nodup_firsts xs) hn).mpr fun x => by rw [mem_firsts, h]).length_eq
theorem polysB_of {Ls : List (List D)} (h1 : Ls.length ≤ 12) (h2 : ∀ p ∈ Ls, p.length ≤ 24 ∧ ∀ d ∈ p, sideB d = true) (h3 : Ls.flatten.length ≤ 40) {ns : List Str} (h4 : ns.Nodup) (h5 : ns.length ≤ 8) (h6 : (namesA Ls).Perm (ns ++ ns)) : polysB (.tup (Ls.map .tup)) = true := by
  have e0 : (Ls.map D.tup).map itemsT = Ls := by rw [List.map_map]; exact List.map_id Ls
  have hm : ∀ x, x ∈ namesA Ls ↔ x ∈ ns := fun x => by rw [h6.mem_iff]; simp
  have e1 : ((Ls.map D.tup).map fun p => (itemsT p).length).sum = Ls.flatten.length := by
    rw [List.map_map, List.length_flatten]
    rfl
  show (decide ((Ls.map D.tup).length ≤ 12) && ((Ls.map D.tup).all polyB && (decide (((Ls.map D.tup).map fun p => (itemsT p).length).sum ≤ 40) && (decide ((firsts (namesA ((Ls.map D.tup).map itemsT))).length ≤ 8) && (firsts (namesA ((Ls.map D.tup).map itemsT))).all fun x => decide ((namesA ((Ls.map D.tup).map itemsT)).count x = 2))))) = true
  rw [e0, e1, List.length_map, firsts_len h4 hm]
  simp only [Bool.and_eq_true, decide_eq_true_eq, List.all_eq_true]
  refine ⟨h1, fun p hp => ?_, h3, h5, fun x hx => ?_⟩
  · obtain ⟨q, hq, rfl⟩ := List.mem_map.mp hp
    show (decide (q.length ≤ 24) && q.all sideB) = true
    simp only [Bool.and_eq_true, decide_eq_true_eq, List.all_eq_true]
    exact h2 q hq
  · have hx' := (hm x).mp (mem_firsts.mp hx)
    rw [h6.count_eq, List.count_append, count_one h4 hx']
theorem Fm.polys {a b : Nat} {Ls : List (List D)} (h : Fm a b Ls) (ha : a ≤ 12) (hb : b ≤ 40) (h24 : ∀ p ∈ Ls, p.length ≤ 24) : polysB (.tup (Ls.map .tup)) = true := by
  obtain ⟨ns, n1, n2, n3⟩ := h.nm
  exact polysB_of (Nat.le_trans h.len ha) (fun p hp => ⟨h24 p hp, fun d hd => (h.ok p hp d hd).2⟩) (Nat.le_trans h.tot hb) n1 n2 n3
theorem okV_tup {m : Nat} {xs : List D} (h1 : xs.length ≤ 60) (h2 : ∀ x ∈ xs, okV m x = true) : okV (m + 1) (.tup xs) = true := by
  show (decide (xs.length ≤ 60) && xs.all (okV m)) = true
  simp only [Bool.and_eq_true, decide_eq_true_eq, List.all_eq_true]
  exact ⟨h1, h2⟩
theorem okV_lst {m : Nat} {xs : List D} (h1 : xs.length ≤ 60) (h2 : ∀ x ∈ xs, okV m x = true) : okV (m + 1) (.lst xs) = true := by
  show (decide (xs.length ≤ 60) && xs.all (okV m)) = true
  simp only [Bool.and_eq_true, decide_eq_true_eq, List.all_eq_true]
  exact ⟨h1, h2⟩
theorem okV_up : ∀ {m : Nat} {d : D}, okV m d = true → okV (m + 1) d = true
  | m + 1, .non, _ => rfl
  | m + 1, .bl b, _ => rfl
  | m + 1, .int i, _ => rfl
  | m + 1, .str x, h => h
  | m + 1, .tup xs, h => okV_tup (okV.tup h).1 fun x hx => okV_up ((okV.tup h).2 x hx)
  | m + 1, .lst xs, h => okV_lst (okV.lst h).1 fun x hx => okV_up ((okV.lst h).2 x hx)
theorem okV_mono {m m' : Nat} {d : D} (h : okV m d = true) (l : m ≤ m') : okV m' d = true := by
  obtain ⟨k, rfl⟩ : ∃ k, m' = m + k := ⟨m' - m, by omega⟩
  clear l
  induction k with
  | zero => exact h
  | succ k ih => exact okV_up ih
theorem Fm.okv {a b : Nat} {Ls : List (List D)} (h : Fm a b Ls) (ha : a ≤ 60) (hb : b ≤ 60) : okV 4 (.tup (Ls.map .tup)) = true := by
  refine okV_tup (by rw [List.length_map]; exact Nat.le_trans h.len ha) fun x hx => ?_
  obtain ⟨p, hp, rfl⟩ := List.mem_map.mp hx
  exact okV_tup (Nat.le_trans (len_of_mem hp) (Nat.le_trans h.tot hb)) fun d hd => (h.ok p hp d hd).1
/-! a loop over a list that is known -/
section
variable {its : List D} {i : Nat} {b : Sm} {env : Env} {S : Store} {kn kb kc : Env → Store → Prop} {kr : D → Env → Store → Prop} {kx : Exn → Env → Store → Prop}
theorem WS_forn {tg : Tg} : WS (forW ⟨its, []⟩ tg (exS b) [] env S) kn kr kb kc kx = kn env S := by
  show WS (MS.ev (fun _ => still ⟨its, []⟩) (fun _ => .nx) env S) kn kr kb kc kx = _
  rw [WS_ev, WM_still, WS_nx]
theorem WS_forc {tg : Tg} {d : D} {ds : List D} : WS (forW ⟨its, []⟩ tg (exS b) (d :: ds) env S) kn kr kb kc kx = WO (bindT tg d env S) fun env1 S1 => WS (exS b env1 S1) (fun e s => WS (forW ⟨its, []⟩ tg (exS b) ds e s) kn kr kb kc kx) kr kn (fun e s => WS (forW ⟨its, []⟩ tg (exS b) ds e s) kn kr kb kc kx) kx := by
  show WS (MS.ev (fun _ => still ⟨its, []⟩) (fun _ => (MS.bd tg d).seq ((exS b).loop (forW ⟨its, []⟩ tg (exS b) ds))) env S) kn kr kb kc kx = _
  rw [WS_ev, WM_still, WS_seq]
  unfold MS.bd
  cases e : bindT tg d env S with
  | ok env1 S1 =>
    show WS (.ok .nx env1 S1) _ _ _ _ _ = _
    rw [WS_oknx, WO_ok]
    show WS ((exS b).loop (forW ⟨its, []⟩ tg (exS b) ds) env1 S1) kn kr kb kc kx = _
    unfold MS.loop
    cases e1 : exS b env1 S1 with
    | ok f env2 S2 =>
      cases f with
      | nx => rw [WS_oknx]
      | ct => rw [WS_okct]
      | bk => rw [WS_okbk]; exact WS_oknx
      | rt d => exact WS_okrt.trans WS_okrt.symm
    | exc x env2 S2 => exact WS_ex0.trans WS_ex0.symm
    | stuck => exact WS_stuck0.trans WS_stuck0.symm
  | exc x S1 =>
    unfold WO
    rw [WM_exc]
    exact WS_stuck0
  | stuck =>
    unfold WO
    rw [WM_stuck]
    exact WS_stuck0
end
theorem perm_strs {ys : List D} {xs : List Str} (h : ys.Perm (xs.map D.str)) : ∃ zs : List Str, ys = zs.map D.str ∧ zs.Perm xs := by
  let un : D → Str := fun d => match d with
    | .str x => x
    | _ => ""
  refine ⟨ys.map un, ?_, ?_⟩
  · rw [List.map_map]
    have : ∀ d ∈ ys, (D.str ∘ un) d = d := fun d hd => by
      obtain ⟨x, _, rfl⟩ := List.mem_map.mp (h.mem_iff.mp hd)
      rfl
    rw [List.map_congr_left this, List.map_id']
  · have h2 := h.map un
    rw [List.map_map] at h2
    have : xs.map (un ∘ D.str) = xs := List.map_id xs
    rwa [this] at h2
theorem perm_put {Ls : List (List D)} {x : Nat} (h : x < Ls.length) (d : D) : (Ls.set x (Ls[x] ++ [d])).flatten.Perm (d :: Ls.flatten) := by
  induction Ls generalizing x with
  | nil => cases h
  | cons a r ih =>
    cases x with
    | zero =>
      show ((a ++ [d]) ++ r.flatten).Perm (d :: (a ++ r.flatten))
      rw [List.append_assoc]
      exact List.perm_middle
    | succ x =>
      have h' : x < r.length := by simpa using h
      show (a ++ (r.set x (r[x] ++ [d])).flatten).Perm (d :: (a ++ r.flatten))
      exact ((ih h').append_left a).trans List.perm_middle
theorem map_set {Ls : List (List D)} {x : Nat} {p : List D} : (Ls.map CV.lst).set x (.lst p) = (Ls.set x p).map CV.lst := List.map_set.symm
theorem range_getD (Ls : List (List D)) : (List.range Ls.length).map (fun i => D.tup (Ls.getD i [])) = Ls.map D.tup := by
  refine List.ext_getElem (by simp) fun i h1 h2 => ?_
  have : i < Ls.length := by simpa using h2
  simp [List.getD_eq_getElem?_getD, this]
theorem namesP_strs : ∀ ws : List Str, namesP (ws.map D.str) = []
  | [] => rfl
  | a :: r => namesP_strs r
theorem rep_cells (j : Nat) : List.replicate j (CV.lst []) = (List.replicate j ([] : List D)).map CV.lst := by simp
theorem flat_rep (j : Nat) : (List.replicate j ([] : List D)).flatten = [] := by simp
theorem cut_from1 {xs : List D} {k : Nat} : Py.cutD xs (some ((k : Int) + 1)) none = xs.drop (k + 1) := cut_from (k := k + 1)
theorem first_of {d : D} (h : sideB d = true) (ok : okV 2 d = true) : ∃ s, opIx d (.int 0) = M.pure s ∧ okV 1 s = true := by
  cases d with
  | str x =>
    have h : nmB x = true := h
    obtain ⟨h1, h2⟩ := okV.str ok
    unfold nmB at h
    simp only [Bool.and_eq_true, decide_eq_true_eq] at h
    have e1 : x.cps.toList.length = x.length := Array.length_toList
    have hl : 0 < x.cps.toList.length := by omega
    have e2 : x.cps.toList[0]? = some x.cps.toList[0] := List.getElem?_eq_getElem hl
    have e3 : atI x.cps.toList 0 = some x.cps.toList[0] := atI_nat (j := 0) e2
    refine ⟨.str ⟨#[x.cps.toList[0]]⟩, ?_, ?_⟩
    · rw [xix_str (by omega), e3]
    · show (PyData.strOk _ && _) = true
      rw [one_ok h1 e2]
      rfl
  | tup xs =>
    obtain ⟨h1, h2⟩ := okV.tup ok
    match xs, h, h2 with
    | [.str x, .int i], h, h2 => exact ⟨.str x, rfl, h2 _ (by simp)⟩
  | _ => cases h
theorem Fm.mono {a b a' b' : Nat} {Ls : List (List D)} (h : Fm a b Ls) (ha : a ≤ a') (hb : b ≤ b') : Fm a' b' Ls := ⟨Nat.le_trans h.len ha, Nat.le_trans h.tot hb, h.ok, h.nm⟩
theorem Fm.nil {a b : Nat} : Fm a b [] := ⟨Nat.zero_le _, Nat.zero_le _, (fun _ h => by cases h), [], List.nodup_nil, by decide, .refl _⟩
theorem Fm.more {a b : Nat} {Ls : List (List D)} (h : Fm a b Ls) : Fm (a + 1) b (Ls ++ [[]]) := by
  obtain ⟨h1, h2, h3, ns, n1, n2, n3⟩ := h
  refine ⟨by simp; omega, by simpa using h2, fun p hp d hd => ?_, ns, n1, n2, ?_⟩
  · rcases List.mem_append.mp hp with hp | hp
    · exact h3 p hp d hd
    · have : p = [] := by simpa using hp
      subst this
      cases hd
  · rw [namesA_app, namesA_one]
    show (namesA Ls ++ []).Perm _
    rw [List.append_nil]
    exact n3
theorem Fm.rev {a b : Nat} {Ls : List (List D)} (h : Fm a b Ls) : Fm a b Ls.reverse := by
  obtain ⟨h1, h2, h3, ns, n1, n2, n3⟩ := h
  have hp : Ls.reverse.Perm Ls := List.reverse_perm Ls
  refine ⟨by rw [List.length_reverse]; exact h1, by rw [hp.flatten.length_eq]; exact h2, fun p q d hd => h3 p (List.mem_reverse.mp q) d hd, ns, n1, n2, ?_⟩
  rw [namesA_flat]
  refine (namesP_perm hp.flatten).trans ?_
  rw [← namesA_flat]
  exact n3
theorem Fm.good {a b : Nat} {Ls : List (List D)} (h : Fm a b Ls) (ha : a ≤ 12) (hb : b ≤ 24) : okV 6 (.tup (Ls.map .tup)) = true ∧ polysB (.tup (Ls.map .tup)) = true :=
  ⟨okV_mono (h.okv (by omega) (by omega)) (by decide), h.polys ha (by omega) fun p hp => Nat.le_trans (len_of_mem hp) (Nat.le_trans h.tot hb)⟩
end Py
-- K24S
namespace K24
open Py PySem PySem.Spec PyProof.Rows L2
def N_law_box : List Str := ["great"]
noncomputable def b_law_box : Sm := (.cons (.ret (.lst true (.cons (.prim "abs" pAbs (.cons (.var 0) .nil)) (.cons (.cmp .ge (.prim "abs" pAbs (.cons (.var 0) .nil)) (.bin .pow (.con (.int 10)) (.con (.int 18)))) (.cons (.bin .mod (.prim "int" pInt (.cons (.prim "abs" pAbs (.cons (.var 0) .nil)) .nil)) (.con (.int 2147483629))) (.cons (.con (.int 0)) .nil))))))
 .nil)
noncomputable def f_law_box : Sem := runF false 1 b_law_box
def N_law_cell : List Str := ["script", "k"]
noncomputable def b_law_cell : Sm := (.cons (.ret (.ite (.cmp .lt (.var 1) (.prim "len" pLen (.cons (.var 0) .nil))) (.ix (.var 0) (.var 1)) (.bin .add (.bin .mul (.con (.int 6173)) (.var 1)) (.bin .mod (.prim "int" pInt (.cons (.prim "sum" pSum (.cons (.sl (.var 0) .no (.con (.int 1))) .nil)) .nil)) (.con (.int 1000033))))))
 .nil)
noncomputable def f_law_cell : Sem := runF true 2 b_law_cell
def N_law_take : List Str := ["box", "many", "digit"]
noncomputable def b_law_take : Sm := (.cons (.ite (.and (.ix (.var 0) (.con (.int 1))) (.cmp .gt (.ix (.var 0) (.con (.int 0))) (.con (.int 0)))) (.cons (.set (.nm 2) (.bin .mod (.prim "int" pInt (.cons (.ix (.var 0) (.con (.int 0))) .nil)) (.var 1)))
 (.cons (.put (.var 0) (.con (.int 0)) (.bin .fdiv (.prim "int" pInt (.cons (.ix (.var 0) (.con (.int 0))) .nil)) (.var 1)))
 (.cons (.ret (.var 2))
 .nil))) .nil)
 (.cons (.put (.var 0) (.con (.int 3)) (.bin .add (.ix (.var 0) (.con (.int 3))) (.con (.int 1))))
 (.cons (.put (.var 0) (.con (.int 2)) (.bin .mod (.bin .add (.bin .add (.bin .mul (.ix (.var 0) (.con (.int 2))) (.con (.int 69621))) (.bin .mul (.con (.int 1327)) (.ix (.var 0) (.con (.int 3))))) (.con (.int 17))) (.con (.int 2147483629))))
 (.cons (.ret (.bin .mod (.bin .fdiv (.ix (.var 0) (.con (.int 2))) (.con (.int 64))) (.var 1)))
 .nil))))
noncomputable def f_law_take : Sem := runF false 3 b_law_take
def N_law_mixed : List Str := ["box", "items", "found", "left", "turn"]
noncomputable def b_law_mixed : Sm := (.cons (.par [2, 3] (.cons (.lst true .nil) (.cons (.prim "list" (pList true) (.cons (.var 1) .nil)) .nil)))
 (.cons (.for (.nm 4) (.rng1 (.prim "len" pLen (.cons (.var 1) .nil))) (.cons (.ex (.meth "append" "list" qAppend (.var 2) (.cons (.meth "pop" "list" qPop (.var 3) (.cons (.call "_law_take" 2 f_law_take (.cons (.var 0) (.cons (.prim "len" pLen (.cons (.var 3) .nil)) .nil))) .nil)) .nil)))
 .nil))
 (.cons (.ret (.var 2))
 .nil)))
noncomputable def f_law_mixed : Sem := runF true 5 b_law_mixed
def N_law_film : List Str := ["box", "straight", "glued", "letters", "most", "names", "sides", "name", "way", "many", "turn", "polygons", "side", "polygon"]
noncomputable def b_law_film : Sm := (.cons (.par [5, 6] (.cons (.sl (.call "_law_mixed" 2 f_law_mixed (.cons (.var 0) (.cons (.lst false (.cons (.con (.str "x")) (.cons (.con (.str "y")) (.cons (.con (.str "z")) (.cons (.con (.str "a")) (.cons (.con (.str "b")) (.cons (.con (.str "ab")) (.cons (.con (.str "zz")) (.cons (.con (.str "abcdefghijkl")) .nil))))))))) .nil))) .no (.var 2)) (.cons (.lst false .nil) .nil)))
 (.cons (.for (.nm 7) (.var 5) (.cons (.set (.nm 8) (.bin .sub (.con (.int 1)) (.bin .mul (.con (.int 2)) (.call "_law_take" 2 f_law_take (.cons (.var 0) (.cons (.con (.int 2)) .nil))))))
 (.cons (.set (.nm 6) (.bin .add (.var 6) (.lst false (.cons (.tup (.cons (.var 7) (.cons (.var 8) .nil))) (.cons (.tup (.cons (.var 7) (.cons (.ite (.or (.var 1) (.cmp .eq (.call "_law_take" 2 f_law_take (.cons (.var 0) (.cons (.con (.int 2)) .nil))) (.con (.int 0)))) (.bin .sub (.con (.int 0)) (.var 8)) (.var 8)) .nil))) .nil)))))
 .nil)))
 (.cons (.set (.nm 9) (.bin .add (.con (.int 1)) (.call "_law_take" 2 f_law_take (.cons (.var 0) (.cons (.con (.int 4)) .nil)))))
 (.cons (.set (.nm 6) (.call "_law_mixed" 2 f_law_mixed (.cons (.var 0) (.cons (.bin .add (.var 6) (.lc false (.nm 10) (.rng1 (.call "_law_take" 2 f_law_take (.cons (.var 0) (.cons (.bin .add (.var 4) (.con (.int 1))) .nil)))) .no (.ix (.var 3) (.call "_law_take" 2 f_law_take (.cons (.var 0) (.cons (.prim "len" pLen (.cons (.var 3) .nil)) .nil)))))) .nil))))
 (.cons (.set (.nm 11) (.lc false (.nm 10) (.rng1 (.var 9)) .no (.lst true .nil)))
 (.cons (.for (.nm 12) (.var 6) (.cons (.ex (.meth "append" "list" qAppend (.ix (.var 11) (.call "_law_take" 2 f_law_take (.cons (.var 0) (.cons (.var 9) .nil)))) (.cons (.var 12) .nil)))
 .nil))
 (.cons (.ret (.prim "tuple" pTuple (.cons (.lc false (.nm 13) (.var 11) .no (.prim "tuple" pTuple (.cons (.var 13) .nil))) .nil)))
 .nil)))))))
noncomputable def f_law_film : Sem := runF true 14 b_law_film
def N_is_glued : List Str := ["side"]
noncomputable def b_is_glued : Sm := (.cons (.ret (.isi (.var 0) [.b "tuple"] true))
 .nil)
noncomputable def f_is_glued : Sem := runF true 1 b_is_glued
def N_spots_of : List Str := ["polygons", "found", "at", "polygon", "place", "side"]
noncomputable def b_spots_of : Sm := (.cons (.set (.nm 1) .edic)
 (.cons (.for (.tp [2, 3]) (.enum (.var 0)) (.cons (.for (.tp [4, 5]) (.enum (.var 3)) (.cons (.ite (.call "is_glued" 1 f_is_glued (.cons (.var 5) .nil)) (.cons (.ex (.meth "append" "list" qAppend (.meth "setdefault" "dict" qSetd (.var 1) (.cons (.ix (.var 5) (.con (.int 0))) (.cons (.lst true .nil) .nil))) (.cons (.tup (.cons (.var 2) (.cons (.var 4) .nil))) .nil)))
 .nil) .nil)
 .nil))
 .nil))
 (.cons (.ret (.var 1))
 .nil)))
noncomputable def f_spots_of : Sem := runF false 6 b_spots_of
def N_is_name : List Str := ["value", "sign"]
noncomputable def b_is_name : Sm := (.cons (.ret (.and (.isi (.var 0) [.b "str"] true) (.and (.chain .le .le (.con (.int 1)) (.prim "len" pLen (.cons (.var 0) .nil)) (.glob "MOST_NAME" (.int 12))) (.prim "all" pAll (.cons (.lc false (.nm 1) (.var 0) .no (.cmp .isin (.var 1) (.glob "SIGNS" (.str "abcdefghijklmnopqrstuvwxyz")))) .nil)))))
 .nil)
noncomputable def f_is_name : Sem := runF true 2 b_is_name
def N_is_whole : List Str := ["value"]
noncomputable def b_is_whole : Sm := (.cons (.ret (.and (.isi (.var 0) [.b "int"] true) (.not (.isi (.var 0) [.b "bool"] true))))
 .nil)
noncomputable def f_is_whole : Sem := runF true 1 b_is_whole
def N_is_side : List Str := ["value"]
noncomputable def b_is_side : Sm := (.cons (.ite (.not (.isi (.var 0) [.b "tuple"] true)) (.cons (.ret (.call "is_name" 1 f_is_name (.cons (.var 0) .nil)))
 .nil) .nil)
 (.cons (.ret (.and (.cmp .eq (.prim "len" pLen (.cons (.var 0) .nil)) (.con (.int 2))) (.and (.call "is_name" 1 f_is_name (.cons (.ix (.var 0) (.con (.int 0))) .nil)) (.and (.call "is_whole" 1 f_is_whole (.cons (.ix (.var 0) (.con (.int 1))) .nil)) (.cmp .isin (.ix (.var 0) (.con (.int 1))) (.tup (.cons (.con (.int 1)) (.cons (.neg (.con (.int 1))) .nil))))))))
 .nil))
noncomputable def f_is_side : Sem := runF true 1 b_is_side
def N_are_polygons : List Str := ["value", "polygon", "side", "spots", "places"]
noncomputable def b_are_polygons : Sm := (.cons (.ite (.or (.not (.isi (.var 0) [.b "tuple"] true)) (.cmp .gt (.prim "len" pLen (.cons (.var 0) .nil)) (.glob "MOST_POLYGONS" (.int 12)))) (.cons (.ret (.con (.bl false)))
 .nil) .nil)
 (.cons (.for (.nm 1) (.var 0) (.cons (.ite (.or (.not (.isi (.var 1) [.b "tuple"] true)) (.or (.cmp .gt (.prim "len" pLen (.cons (.var 1) .nil)) (.glob "MOST_SIDES" (.int 24))) (.not (.prim "all" pAll (.cons (.lc false (.nm 2) (.var 1) .no (.call "is_side" 1 f_is_side (.cons (.var 2) .nil))) .nil))))) (.cons (.ret (.con (.bl false)))
 .nil) .nil)
 .nil))
 (.cons (.set (.nm 3) (.call "spots_of" 1 f_spots_of (.cons (.var 0) .nil)))
 (.cons (.ite (.or (.cmp .gt (.prim "sum" pSum (.cons (.lc false (.nm 1) (.var 0) .no (.prim "len" pLen (.cons (.var 1) .nil))) .nil)) (.glob "MOST_ALL" (.int 40))) (.cmp .gt (.prim "len" pLen (.cons (.var 3) .nil)) (.glob "MOST_NAMES" (.int 8)))) (.cons (.ret (.con (.bl false)))
 .nil) .nil)
 (.cons (.ret (.prim "all" pAll (.cons (.lc false (.nm 4) (.walk .values (.var 3)) .no (.cmp .eq (.prim "len" pLen (.cons (.var 4) .nil)) (.con (.int 2)))) .nil)))
 .nil)))))
noncomputable def f_are_polygons : Sem := runF true 5 b_are_polygons
def N_Film__init_ : List Str := ["self", "polygons"]
noncomputable def b_Film__init_ : Sm := (.cons (.ite (.not (.call "are_polygons" 1 f_are_polygons (.cons (.var 1) .nil))) (.cons (.rs "InvalidPolygons" (fGiven "InvalidPolygons") (.cons (.var 1) .nil))
 .nil) .nil)
 (.cons (.sat (.var 0) "polygons" (.var 1))
 .nil))
noncomputable def f_Film__init_ : Sem := runF true 2 b_Film__init_
def N_law_made : List Str := ["value", "named", "film", "e"]
noncomputable def b_law_made : Sm := (.cons (.try (.cons (.set (.nm 2) (.ite (.var 1) (.mkk "Film" false f_Film__init_ 0 ["polygons"] [0] .nil (.cons (.var 0) .nil)) (.mk "Film" false 1 f_Film__init_ (.cons (.var 0) .nil))))
 .nil) [⟨"InvalidPolygons", true, [("InvalidPolygons", true)], (some 3), (.lst (.cons (.con (.str "polygons")) (.cons (.fld 3 "given") .nil)))⟩])
 (.cons (.ret (.lst false (.cons (.con (.str "made")) (.cons (.var 2) .nil))))
 .nil))
noncomputable def f_law_made : Sem := runF true 4 b_law_made
def N_law_near : List Str := ["box", "polygons", "places", "p", "k", "found", "name", "turn", "side", "other"]
noncomputable def b_law_near : Sm := (.cons (.set (.nm 2) (.lst true .nil))
 (.cons (.for (.nm 3) (.rng1 (.prim "len" pLen (.cons (.var 1) .nil))) (.cons (.ex (.meth "extend" "list" qExtend (.var 2) (.cons (.lc false (.nm 4) (.rng1 (.prim "len" pLen (.cons (.ix (.var 1) (.var 3)) .nil))) .no (.tup (.cons (.var 3) (.cons (.var 4) .nil)))) .nil)))
 .nil))
 (.cons (.set (.nm 5) (.lst true (.cons (.prim "list" (pList false) (.cons (.var 1) .nil)) (.cons (.bin .add (.var 1) (.tup (.cons (.lst false .nil) .nil))) (.cons (.bin .add (.var 1) (.tup (.cons (.con (.str "a")) .nil))) (.cons (.bin .add (.var 1) (.tup (.cons (.con .non) .nil))) (.cons (.bin .add (.var 1) (.tup (.cons (.tup (.cons (.con (.str "A")) .nil)) .nil))) (.cons (.bin .add (.var 1) (.tup (.cons (.tup (.cons (.con (.str "")) .nil)) .nil))) (.cons (.bin .add (.var 1) (.tup (.cons (.tup (.cons (.tup (.cons (.con (.str "x")) .nil)) .nil)) .nil))) .nil)))))))))
 (.cons (.set (.nm 5) (.addl true (.var 5) (.lst false (.cons (.bin .add (.var 1) (.tup (.cons (.tup (.cons (.con (.str "abcdefghijklm")) .nil)) .nil))) (.cons (.bin .add (.var 1) (.tup (.cons (.tup (.cons (.con (.str "a1")) .nil)) .nil))) (.cons (.bin .add (.var 1) (.tup (.cons (.tup (.cons (.con (.int 5)) .nil)) .nil))) (.cons (.bin .add (.var 1) (.tup (.cons (.tup (.cons (.tup (.cons (.con (.str "q")) (.cons (.con (.int 1)) .nil))) .nil)) .nil))) (.cons (.bin .add (.var 1) (.tup (.cons (.tup (.cons (.tup (.cons (.con (.str "q")) (.cons (.con (.int 1)) (.cons (.con (.int 1)) .nil)))) (.cons (.tup (.cons (.con (.str "q")) (.cons (.neg (.con (.int 1))) (.cons (.con (.int 1)) .nil)))) .nil))) .nil))) .nil))))))))
 (.cons (.set (.nm 5) (.addl true (.var 5) (.lst false (.cons (.bin .add (.var 1) (.tup (.cons (.tup (.cons (.tup (.cons (.con (.str "q")) (.cons (.con (.int 1)) .nil))) (.cons (.tup (.cons (.con (.str "q")) (.cons (.con (.int 0)) .nil))) .nil))) .nil))) (.cons (.bin .add (.var 1) (.tup (.cons (.tup (.cons (.tup (.cons (.con (.str "q")) (.cons (.con (.int 1)) .nil))) (.cons (.tup (.cons (.con (.str "q")) (.cons (.con (.bl true)) .nil))) .nil))) .nil))) (.cons (.bin .add (.var 1) (.tup (.cons (.tup (.cons (.lst false (.cons (.con (.str "q")) (.cons (.con (.int 1)) .nil))) (.cons (.lst false (.cons (.con (.str "q")) (.cons (.neg (.con (.int 1))) .nil))) .nil))) .nil))) (.cons (.bin .add (.var 1) (.tup (.cons (.tup (.cons (.tup (.cons (.con (.str "q")) (.cons (.con (.int 2)) .nil))) (.cons (.tup (.cons (.con (.str "q")) (.cons (.neg (.con (.int 2))) .nil))) .nil))) .nil))) .nil)))))))
 (.cons (.set (.nm 5) (.addl true (.var 5) (.lst false (.cons (.bin .add (.var 1) (.tup (.cons (.tup (.cons (.tup (.cons (.con (.str "q")) (.cons (.con (.str "1")) .nil))) (.cons (.tup (.cons (.con (.str "q")) (.cons (.con (.str "1")) .nil))) .nil))) .nil))) (.cons (.bin .add (.var 1) (.tup (.cons (.tup (.cons (.tup (.cons (.con (.str "Q")) (.cons (.con (.int 1)) .nil))) (.cons (.tup (.cons (.con (.str "Q")) (.cons (.neg (.con (.int 1))) .nil))) .nil))) .nil))) (.cons (.bin .add (.var 1) (.tup (.cons (.tup (.cons (.tup (.cons (.con (.str "q")) (.cons (.con (.int 1)) .nil))) (.cons (.tup (.cons (.con (.str "q")) (.cons (.neg (.con (.int 1))) .nil))) (.cons (.tup (.cons (.con (.str "q")) (.cons (.con (.int 1)) .nil))) .nil)))) .nil))) (.cons (.bin .add (.var 1) (.tup (.cons (.tup (.cons (.tup (.cons (.con (.str "q")) (.cons (.con (.int 1)) .nil))) (.cons (.tup (.cons (.con (.str "q")) (.cons (.neg (.con (.int 1))) .nil))) .nil))) .nil))) .nil)))))))
 (.cons (.set (.nm 5) (.addl true (.var 5) (.lst false (.cons (.bin .add (.var 1) (.tup (.cons (.tup (.cons (.tup (.cons (.con (.str "q")) (.cons (.con (.int 1)) .nil))) (.cons (.tup (.cons (.con (.str "q")) (.cons (.con (.int 1)) .nil))) .nil))) .nil))) (.cons (.bin .add (.var 1) (.tup (.cons (.tup (.cons (.con .non) .nil)) .nil))) (.cons (.sl (.var 1) (.con (.int 1)) .no) (.cons (.rev (.var 1)) (.cons (.bin .add (.var 1) (.tup (.cons (.tup .nil) .nil))) (.cons (.dis (.pr (.con (.str "a")) (.var 1) .nil)) (.cons (.con .non) (.cons (.con (.int 5)) (.cons (.con (.str "a")) (.cons (.con (.bl true)) (.cons (.tup (.cons (.tup (.cons (.con (.str "a")) (.cons (.con (.str "b")) .nil))) (.cons (.con (.int 5)) .nil))) .nil))))))))))))))
 (.cons (.for (.nm 6) (.lst false (.cons (.con (.str "abcdefghijklm")) (.cons (.con (.str "")) (.cons (.con (.str "q1")) (.cons (.con (.int 5)) (.cons (.con .non) (.cons (.tup (.cons (.con (.str "q")) .nil)) .nil))))))) (.cons (.ex (.meth "append" "list" qAppend (.var 5) (.cons (.bin .add (.var 1) (.tup (.cons (.tup (.cons (.tup (.cons (.var 6) (.cons (.con (.int 1)) .nil))) (.cons (.tup (.cons (.var 6) (.cons (.neg (.con (.int 1))) .nil))) .nil))) .nil))) .nil)))
 .nil))
 (.cons (.ex (.meth "append" "list" qAppend (.var 5) (.cons (.bin .add (.var 1) (.tup (.cons (.tup (.cons (.tup (.cons (.con (.str "q")) (.cons (.con (.int 1)) .nil))) (.cons (.tup (.cons (.con (.str "q")) (.cons (.neg (.con (.int 1))) .nil))) (.cons (.tup (.cons (.con (.str "q")) (.cons (.con (.int 1)) .nil))) (.cons (.tup (.cons (.con (.str "q")) (.cons (.neg (.con (.int 1))) .nil))) .nil))))) .nil))) .nil)))
 (.cons (.for (.nm 7) (.rng1 (.ite (.cmp .ne (.var 2) (.lst false .nil)) (.con (.int 4)) (.con (.int 0)))) (.cons (.set (.tp [3, 4]) (.ix (.var 2) (.call "_law_take" 2 f_law_take (.cons (.var 0) (.cons (.prim "len" pLen (.cons (.var 2) .nil)) .nil)))))
 (.cons (.set (.nm 8) (.ix (.ix (.var 1) (.var 3)) (.var 4)))
 (.cons (.for (.nm 9) (.lst false (.cons (.tup .nil) (.cons (.tup (.cons (.var 8) (.cons (.var 8) .nil))) (.cons (.tup (.cons (.con (.str "c")) .nil)) (.cons (.tup (.cons (.tup (.cons (.ix (.var 8) (.con (.int 0))) (.cons (.con (.int 1)) .nil))) .nil)) (.cons (.tup (.cons (.tup (.cons (.ix (.var 8) (.con (.int 0))) (.cons (.neg (.con (.int 1))) .nil))) .nil)) (.cons (.tup (.cons (.lst false (.cons (.var 8) .nil)) .nil)) .nil))))))) (.cons (.ex (.meth "append" "list" qAppend (.var 5) (.cons (.bin .add (.bin .add (.sl (.var 1) .no (.var 3)) (.tup (.cons (.bin .add (.bin .add (.sl (.ix (.var 1) (.var 3)) .no (.var 4)) (.var 9)) (.sl (.ix (.var 1) (.var 3)) (.bin .add (.var 4) (.con (.int 1))) .no)) .nil))) (.sl (.var 1) (.bin .add (.var 3) (.con (.int 1))) .no)) .nil)))
 .nil))
 (.cons (.ex (.meth "append" "list" qAppend (.var 5) (.cons (.bin .add (.bin .add (.sl (.var 1) .no (.var 3)) (.tup (.cons (.prim "list" (pList false) (.cons (.ix (.var 1) (.var 3)) .nil)) .nil))) (.sl (.var 1) (.bin .add (.var 3) (.con (.int 1))) .no)) .nil)))
 .nil)))))
 (.cons (.ret (.var 5))
 .nil)))))))))))
noncomputable def f_law_near : Sem := runF false 10 b_law_near
def N_law_is_name : List Str := ["value", "sign"]
noncomputable def b_law_is_name : Sm := (.cons (.ret (.and (.isi (.var 0) [.b "str"] true) (.and (.chain .le .le (.con (.int 1)) (.prim "len" pLen (.cons (.var 0) .nil)) (.con (.int 12))) (.cmp .eq (.lc false (.nm 1) (.var 0) (.cmp .notin (.var 1) (.con (.str "abcdefghijklmnopqrstuvwxyz"))) (.var 1)) (.lst false .nil)))))
 .nil)
noncomputable def f_law_is_name : Sem := runF true 2 b_law_is_name
def N_law_are_polygons : List Str := ["value", "seen", "many", "polygon", "side", "name"]
noncomputable def b_law_are_polygons : Sm := (.cons (.ite (.or (.not (.isi (.var 0) [.b "tuple"] true)) (.cmp .gt (.prim "len" pLen (.cons (.var 0) .nil)) (.con (.int 12)))) (.cons (.ret (.con (.bl false)))
 .nil) .nil)
 (.cons (.set (.tp [1, 2]) (.tup (.cons .edic (.cons (.con (.int 0)) .nil))))
 (.cons (.for (.nm 3) (.var 0) (.cons (.ite (.or (.not (.isi (.var 3) [.b "tuple"] true)) (.cmp .gt (.prim "len" pLen (.cons (.var 3) .nil)) (.con (.int 24)))) (.cons (.ret (.con (.bl false)))
 .nil) .nil)
 (.cons (.for (.nm 4) (.var 3) (.cons (.set (.nm 2) (.bin .add (.var 2) (.con (.int 1))))
 (.cons (.ite (.and (.isi (.var 4) [.b "tuple"] true) (.and (.cmp .eq (.prim "len" pLen (.cons (.var 4) .nil)) (.con (.int 2))) (.call "_law_is_name" 1 f_law_is_name (.cons (.ix (.var 4) (.con (.int 0))) .nil)))) (.cons (.ite (.or (.not (.isi (.ix (.var 4) (.con (.int 1))) [.b "int"] true)) (.or (.isi (.ix (.var 4) (.con (.int 1))) [.b "bool"] true) (.cmp .notin (.ix (.var 4) (.con (.int 1))) (.tup (.cons (.con (.int 1)) (.cons (.neg (.con (.int 1))) .nil)))))) (.cons (.ret (.con (.bl false)))
 .nil) .nil)
 (.cons (.put (.var 1) (.ix (.var 4) (.con (.int 0))) (.bin .add (.meth "get" "dict" qGet (.var 1) (.cons (.ix (.var 4) (.con (.int 0))) (.cons (.con (.int 0)) .nil))) (.con (.int 1))))
 .nil)) (.cons (.ite (.not (.call "_law_is_name" 1 f_law_is_name (.cons (.var 4) .nil))) (.cons (.ret (.con (.bl false)))
 .nil) .nil)
 .nil))
 .nil)))
 .nil)))
 (.cons (.ret (.and (.cmp .le (.var 2) (.con (.int 40))) (.and (.cmp .le (.prim "len" pLen (.cons (.var 1) .nil)) (.con (.int 8))) (.cmp .eq (.lcd false (.nm 5) 1 (.cmp .ne (.ix (.var 1) (.var 5)) (.con (.int 2))) (.var 5)) (.lst false .nil)))))
 .nil))))
noncomputable def f_law_are_polygons : Sem := runF true 6 b_law_are_polygons
def N_law_fresh : List Str := ["value"]
noncomputable def b_law_fresh : Sm := (.cons (.ret (.ite (.isi (.var 0) [.b "list"] true) (.prim "list" (pList true) (.cons (.var 0) .nil)) (.ite (.isi (.var 0) [.b "dict"] true) (.prim "dict" pDict2 (.cons (.var 0) .nil)) (.var 0))))
 .nil)
noncomputable def f_law_fresh : Sem := runF false 1 b_law_fresh
def N_law_same : List Str := ["given", "due", "k", "key"]
noncomputable def b_law_same (r : Sem) : Sm := (.cons (.ite (.or (.cmp .is (.var 1) (.con .non)) (.isi (.var 1) [.b "bool"] true)) (.cons (.ret (.ite (.cmp .is (.var 1) (.con .non)) (.cmp .is (.var 0) (.con .non)) (.and (.isi (.var 0) [.b "bool"] true) (.cmp .eq (.cmp .is (.var 0) (.con (.bl true))) (.cmp .is (.var 1) (.con (.bl true)))))))
 .nil) .nil)
 (.cons (.ite (.isi (.var 1) [.b "int"] true) (.cons (.ret (.and (.isi (.var 0) [.b "int"] true) (.and (.not (.isi (.var 0) [.b "bool"] true)) (.cmp .eq (.prim "int" pInt (.cons (.var 0) .nil)) (.var 1)))))
 .nil) .nil)
 (.cons (.ite (.isi (.var 1) [.b "str"] true) (.cons (.ret (.and (.isi (.var 0) [.b "str"] true) (.and (.cmp .eq (.prim "len" pLen (.cons (.var 0) .nil)) (.prim "len" pLen (.cons (.var 1) .nil))) (.cmp .eq (.lc false (.nm 2) (.rng1 (.prim "len" pLen (.cons (.var 1) .nil))) (.cmp .ne (.sl (.var 0) (.var 2) (.bin .add (.var 2) (.con (.int 1)))) (.ix (.var 1) (.var 2))) (.var 2)) (.lst false .nil)))))
 .nil) .nil)
 (.cons (.ite (.isi (.var 1) [.b "dict"] true) (.cons (.ite (.or (.not (.isi (.var 0) [.b "dict"] true)) (.cmp .ne (.prim "len" pLen (.cons (.var 0) .nil)) (.prim "len" pLen (.cons (.var 1) .nil)))) (.cons (.ret (.con (.bl false)))
 .nil) .nil)
 (.cons (.ret (.cmp .eq (.lcd false (.nm 3) 1 (.or (.cmp .notin (.var 3) (.var 0)) (.not (.call "_law_same" 2 r (.cons (.ix (.var 0) (.var 3)) (.cons (.ix (.var 1) (.var 3)) .nil))))) (.var 3)) (.lst false .nil)))
 .nil)) .nil)
 (.cons (.ite (.or (.not (.isi (.var 1) [.b "list", .b "tuple"] false)) (.or (.cmp .ne (.isi (.var 0) [.b "list"] true) (.isi (.var 1) [.b "list"] true)) (.cmp .ne (.isi (.var 0) [.b "tuple"] true) (.isi (.var 1) [.b "tuple"] true)))) (.cons (.ret (.con (.bl false)))
 .nil) .nil)
 (.cons (.ret (.and (.cmp .eq (.prim "len" pLen (.cons (.var 0) .nil)) (.prim "len" pLen (.cons (.var 1) .nil))) (.cmp .eq (.lc false (.nm 2) (.rng1 (.prim "len" pLen (.cons (.var 1) .nil))) (.not (.call "_law_same" 2 r (.cons (.ix (.var 0) (.var 2)) (.cons (.ix (.var 1) (.var 2)) .nil)))) (.var 2)) (.lst false .nil))))
 .nil))))))
noncomputable def f_law_same : Nat → Sem
  | 0 => fun _ => M.fail
  | n + 1 => runF true 4 (b_law_same (f_law_same n))
def N_law_blamed : List Str := ["given", "value"]
noncomputable def b_law_blamed : Sm := (.cons (.ite (.not (.call "_law_same" 2 (f_law_same 40) (.cons (.var 0) (.cons (.var 1) .nil)))) (.cons (.ret (.con (.bl false)))
 .nil) .nil)
 (.cons (.ite (.isi (.var 1) [.b "list"] true) (.cons (.ex (.meth "append" "list" qAppend (.var 1) (.cons (.con (.str "more")) .nil)))
 .nil) .nil)
 (.cons (.ite (.isi (.var 1) [.b "dict"] true) (.cons (.put (.var 1) (.con (.str "more")) (.con (.int 1)))
 .nil) .nil)
 (.cons (.ret (.call "_law_same" 2 (f_law_same 40) (.cons (.var 0) (.cons (.var 1) .nil))))
 .nil))))
noncomputable def f_law_blamed : Sem := runF true 2 b_law_blamed
def N_Film__eq_ : List Str := ["self", "other"]
noncomputable def b_Film__eq_ : Sm := (.cons (.ret (.and (.isi (.var 1) [.c "Film"] true) (.cmp .eq (.attr (.var 0) "polygons") (.attr (.var 1) "polygons"))))
 .nil)
noncomputable def f_Film__eq_ : Sem := runF true 2 b_Film__eq_
def N_law_values_right : List Str := ["box", "polygons", "named", "film", "value", "due", "handed", "told"]
noncomputable def b_law_values_right : Sm := (.cons (.set (.nm 3) (.ix (.call "_law_made" 2 f_law_made (.cons (.var 1) (.cons (.not (.var 2)) .nil))) (.con (.int 1))))
 (.cons (.for (.nm 4) (.addl false (.lst false (.cons (.var 1) .nil)) (.call "_law_near" 2 f_law_near (.cons (.var 0) (.cons (.var 1) .nil)))) (.cons (.par [5, 6] (.cons (.call "_law_are_polygons" 1 f_law_are_polygons (.cons (.var 4) .nil)) (.cons (.call "_law_fresh" 1 f_law_fresh (.cons (.var 4) .nil)) .nil)))
 (.cons (.set (.nm 7) (.call "_law_made" 2 f_law_made (.cons (.var 6) (.cons (.var 2) .nil))))
 (.cons (.ite (.and (.not (.var 5)) (.or (.cmp .ne (.ix (.var 7) (.con (.int 0))) (.con (.str "polygons"))) (.not (.call "_law_blamed" 2 f_law_blamed (.cons (.ix (.var 7) (.con (.int 1))) (.cons (.var 6) .nil)))))) (.cons (.ret (.con (.bl false)))
 .nil) .nil)
 (.cons (.ite (.and (.var 5) (.or (.cmp .ne (.ix (.var 7) (.con (.int 0))) (.con (.str "made"))) (.or (.not (.isi (.ix (.var 7) (.con (.int 1))) [.c "Film"] true)) (.not (.call "_law_same" 2 (f_law_same 40) (.cons (.attr (.ix (.var 7) (.con (.int 1))) "polygons") (.cons (.var 4) .nil))))))) (.cons (.ret (.con (.bl false)))
 .nil) .nil)
 (.cons (.ite (.and (.var 5) (.not (.call "_law_same" 2 (f_law_same 40) (.cons (.lst false (.cons (.eqm "Film" f_Film__eq_ (.var 3) (.ix (.var 7) (.con (.int 1)))) (.cons (.eqm "Film" f_Film__eq_ (.ix (.var 7) (.con (.int 1))) (.var 3)) .nil))) (.cons (.lst false (.cons (.cmp .eq (.var 4) (.var 1)) (.cons (.cmp .eq (.var 4) (.var 1)) .nil))) .nil))))) (.cons (.ret (.con (.bl false)))
 .nil) .nil)
 (.cons (.set (.nm 2) (.not (.var 2)))
 .nil)))))))
 (.cons (.ret (.con (.bl true)))
 .nil)))
noncomputable def f_law_values_right : Sem := runF true 8 b_law_values_right
def N_law_equal_right : List Str := ["one", "other", "named", "film", "told", "value"]
noncomputable def b_law_equal_right : Sm := (.cons (.set (.nm 3) (.ix (.call "_law_made" 2 f_law_made (.cons (.var 0) (.cons (.var 2) .nil))) (.con (.int 1))))
 (.cons (.set (.nm 4) (.lst true (.cons (.eqm "Film" f_Film__eq_ (.var 3) (.ix (.call "_law_made" 2 f_law_made (.cons (.var 0) (.cons (.not (.var 2)) .nil))) (.con (.int 1)))) (.cons (.eqm "Film" f_Film__eq_ (.var 3) (.ix (.call "_law_made" 2 f_law_made (.cons (.var 1) (.cons (.var 2) .nil))) (.con (.int 1)))) (.cons (.eqm "Film" f_Film__eq_ (.ix (.call "_law_made" 2 f_law_made (.cons (.var 1) (.cons (.not (.var 2)) .nil))) (.con (.int 1))) (.var 3)) .nil)))))
 (.cons (.for (.nm 5) (.lst false (.cons (.var 0) (.cons (.con .non) (.cons (.con (.str "film")) (.cons (.lst false (.cons (.var 3) .nil)) (.cons (.tup (.cons (.var 3) .nil)) .nil)))))) (.cons (.ex (.meth "append" "list" qAppend (.var 4) (.cons (.eqm "Film" f_Film__eq_ (.var 3) (.var 5)) .nil)))
 .nil))
 (.cons (.ret (.call "_law_same" 2 (f_law_same 40) (.cons (.var 4) (.cons (.bin .add (.lst false (.cons (.con (.bl true)) (.cons (.cmp .eq (.var 0) (.var 1)) (.cons (.cmp .eq (.var 0) (.var 1)) .nil)))) (.bin .mul (.lst false (.cons (.con (.bl false)) .nil)) (.con (.int 5)))) .nil))))
 .nil))))
noncomputable def f_law_equal_right : Sem := runF true 6 b_law_equal_right
def N_law_great : List Str := ["box", "straight", "names", "sides", "name", "way", "turn", "polygons", "k"]
noncomputable def b_law_great : Sm := (.cons (.set (.nm 2) (.call "_law_mixed" 2 f_law_mixed (.cons (.var 0) (.cons (.lst false (.cons (.con (.str "x")) (.cons (.con (.str "y")) (.cons (.con (.str "z")) (.cons (.con (.str "a")) (.cons (.con (.str "b")) (.cons (.con (.str "ab")) (.cons (.con (.str "zz")) (.cons (.con (.str "abcdefghijkl")) .nil))))))))) .nil))))
 (.cons (.set (.nm 3) (.lst false .nil))
 (.cons (.for (.nm 4) (.var 2) (.cons (.set (.nm 5) (.bin .sub (.con (.int 1)) (.bin .mul (.con (.int 2)) (.call "_law_take" 2 f_law_take (.cons (.var 0) (.cons (.con (.int 2)) .nil))))))
 (.cons (.set (.nm 3) (.bin .add (.var 3) (.lst false (.cons (.tup (.cons (.var 4) (.cons (.var 5) .nil))) (.cons (.tup (.cons (.var 4) (.cons (.ite (.or (.var 1) (.cmp .eq (.call "_law_take" 2 f_law_take (.cons (.var 0) (.cons (.con (.int 2)) .nil))) (.con (.int 0)))) (.bin .sub (.con (.int 0)) (.var 5)) (.var 5)) .nil))) .nil)))))
 .nil)))
 (.cons (.set (.nm 3) (.call "_law_mixed" 2 f_law_mixed (.cons (.var 0) (.cons (.bin .add (.var 3) (.lc false (.nm 6) (.rng1 (.con (.int 24))) .no (.ix (.lst false (.cons (.con (.str "a")) (.cons (.con (.str "b")) (.cons (.con (.str "c")) .nil)))) (.call "_law_take" 2 f_law_take (.cons (.var 0) (.cons (.con (.int 3)) .nil)))))) .nil))))
 (.cons (.set (.nm 7) (.lst true (.cons (.prim "tuple" pTuple (.cons (.sl (.var 3) .no (.con (.int 24))) .nil)) .nil)))
 (.cons (.for (.nm 8) (.rng1 (.con (.int 11))) (.cons (.ex (.meth "append" "list" qAppend (.var 7) (.cons (.prim "tuple" pTuple (.cons (.sl (.var 3) (.bin .add (.con (.int 24)) (.bin .mul (.con (.int 2)) (.var 8))) (.bin .add (.con (.int 26)) (.bin .mul (.con (.int 2)) (.var 8)))) .nil)) .nil)))
 .nil))
 (.cons (.ret (.prim "tuple" pTuple (.cons (.call "_law_mixed" 2 f_law_mixed (.cons (.var 0) (.cons (.var 7) .nil))) .nil)))
 .nil)))))))
noncomputable def f_law_great : Sem := runF true 9 b_law_great
def N_law_limits_right : List Str := ["box", "named", "some", "wide", "k", "rest", "values", "nine", "name", "way", "value", "told", "due"]
noncomputable def b_law_limits_right : Sm := (.cons (.set (.nm 2) (.call "_law_great" 2 f_law_great (.cons (.var 0) (.cons (.cmp .eq (.call "_law_take" 2 f_law_take (.cons (.var 0) (.cons (.con (.int 2)) .nil))) (.con (.int 0))) .nil))))
 (.cons (.set (.nm 3) (.ix (.lc false (.nm 4) (.rng1 (.con (.int 12))) (.cmp .eq (.prim "len" pLen (.cons (.ix (.var 2) (.var 4)) .nil)) (.con (.int 24))) (.var 4)) (.con (.int 0))))
 (.cons (.set (.nm 5) (.lc false (.nm 4) (.rng1 (.con (.int 12))) (.cmp .ne (.var 4) (.var 3)) (.var 4)))
 (.cons (.set (.nm 6) (.lst false (.cons (.var 2) (.cons (.bin .add (.var 2) (.tup (.cons (.tup .nil) .nil))) (.cons (.bin .add (.bin .add (.sl (.var 2) .no (.var 3)) (.tup (.cons (.bin .add (.ix (.var 2) (.var 3)) (.tup (.cons (.con (.str "a")) .nil))) .nil))) (.sl (.var 2) (.bin .add (.var 3) (.con (.int 1))) .no)) (.cons (.bin .add (.bin .add (.sl (.var 2) .no (.ix (.var 5) (.con (.int 0)))) (.tup (.cons (.bin .add (.ix (.var 2) (.ix (.var 5) (.con (.int 0)))) (.tup (.cons (.con (.str "a")) .nil))) .nil))) (.sl (.var 2) (.bin .add (.ix (.var 5) (.con (.int 0))) (.con (.int 1))) .no)) (.cons (.tup (.cons (.bin .mul (.tup (.cons (.con (.str "a")) .nil)) (.con (.int 24))) (.cons (.bin .mul (.tup (.cons (.con (.str "a")) .nil)) (.con (.int 16))) .nil))) .nil)))))))
 (.cons (.set (.nm 6) (.bin .add (.var 6) (.lst false (.cons (.tup (.cons (.bin .mul (.tup (.cons (.con (.str "a")) .nil)) (.con (.int 25))) .nil)) (.cons (.tup (.cons (.bin .mul (.tup (.cons (.con (.str "a")) .nil)) (.con (.int 24))) (.cons (.bin .mul (.tup (.cons (.con (.str "a")) .nil)) (.con (.int 17))) .nil))) (.cons (.bin .mul (.tup (.cons (.tup .nil) .nil)) (.con (.int 12))) (.cons (.bin .mul (.tup (.cons (.tup .nil) .nil)) (.con (.int 13))) .nil)))))))
 (.cons (.set (.nm 7) (.lc false (.nm 4) (.rng1 (.con (.int 9))) .no (.tup (.cons (.ix (.con (.str "abcdefghi")) (.var 4)) (.cons (.con (.int 1)) .nil)))))
 (.cons (.set (.nm 6) (.bin .add (.var 6) (.lst false (.cons (.tup (.cons (.prim "tuple" pTuple (.cons (.var 7) .nil)) (.cons (.prim "tuple" pTuple (.cons (.lc false (.tp [8, 9]) (.var 7) .no (.tup (.cons (.var 8) (.cons (.neg (.con (.int 1))) .nil)))) .nil)) .nil))) (.cons (.tup (.cons (.prim "tuple" pTuple (.cons (.sl (.var 7) .no (.con (.int 8))) .nil)) (.cons (.prim "tuple" pTuple (.cons (.lc false (.tp [8, 9]) (.sl (.var 7) .no (.con (.int 8))) .no (.tup (.cons (.var 8) (.cons (.neg (.con (.int 1))) .nil)))) .nil)) .nil))) .nil)))))
 (.cons (.for (.nm 10) (.var 6) (.cons (.par [11, 12] (.cons (.call "_law_made" 2 f_law_made (.cons (.var 10) (.cons (.var 1) .nil))) (.cons (.call "_law_are_polygons" 1 f_law_are_polygons (.cons (.var 10) .nil)) .nil)))
 (.cons (.ite (.or (.cmp .ne (.ix (.var 11) (.con (.int 0))) (.ite (.var 12) (.con (.str "made")) (.con (.str "polygons")))) (.not (.call "_law_same" 2 (f_law_same 40) (.cons (.ite (.var 12) (.attr (.ix (.var 11) (.con (.int 1))) "polygons") (.ix (.var 11) (.con (.int 1)))) (.cons (.var 10) .nil))))) (.cons (.ret (.con (.bl false)))
 .nil) .nil)
 (.cons (.set (.nm 1) (.not (.var 1)))
 .nil))))
 (.cons (.ret (.con (.bl true)))
 .nil)))))))))
noncomputable def f_law_limits_right : Sem := runF true 13 b_law_limits_right
def N_law : List Str := ["script", "k", "box", "named", "great", "polygons", "turn", "some", "one", "other"]
noncomputable def b_law : Sm := (.cons (.for (.nm 1) (.rng1 (.prim "max" pMax2 (.cons (.con (.int 2)) (.cons (.prim "min" pMin2 (.cons (.con (.int 4)) (.cons (.prim "len" pLen (.cons (.var 0) .nil)) .nil))) .nil)))) (.cons (.set (.nm 2) (.call "_law_box" 1 f_law_box (.cons (.call "_law_cell" 2 f_law_cell (.cons (.var 0) (.cons (.var 1) .nil))) .nil)))
 (.cons (.par [3, 4] (.cons (.cmp .eq (.call "_law_take" 2 f_law_take (.cons (.var 2) (.cons (.con (.int 2)) .nil))) (.con (.int 1))) (.cons (.cmp .eq (.call "_law_take" 2 f_law_take (.cons (.var 2) (.cons (.con (.int 8)) .nil))) (.con (.int 0))) .nil)))
 (.cons (.set (.nm 5) (.bin .add (.lc false (.nm 6) (.rng1 (.con (.int 2))) .no (.call "_law_film" 5 f_law_film (.cons (.var 2) (.cons (.cmp .eq (.call "_law_take" 2 f_law_take (.cons (.var 2) (.cons (.con (.int 2)) .nil))) (.con (.int 0))) (.cons (.call "_law_take" 2 f_law_take (.cons (.var 2) (.cons (.con (.int 5)) .nil))) (.cons (.lst false (.cons (.con (.str "a")) (.cons (.con (.str "b")) (.cons (.con (.str "x")) (.cons (.con (.str "zz")) .nil))))) (.cons (.con (.int 6)) .nil))))))) (.lst false (.cons (.tup .nil) .nil))))
 (.cons (.for (.nm 7) (.var 5) (.cons (.ite (.not (.call "_law_values_right" 3 f_law_values_right (.cons (.var 2) (.cons (.var 7) (.cons (.var 3) .nil))))) (.cons (.ret (.con (.bl false)))
 .nil) .nil)
 (.cons (.set (.nm 3) (.not (.var 3)))
 .nil)))
 (.cons (.for (.tp [8, 9]) (.lst false (.cons (.tup (.cons (.ix (.var 5) (.con (.int 0))) (.cons (.ix (.var 5) (.con (.int 1))) .nil))) (.cons (.tup (.cons (.ix (.var 5) (.con (.int 0))) (.cons (.bin .add (.ix (.var 5) (.con (.int 0))) (.tup (.cons (.tup .nil) .nil))) .nil))) (.cons (.tup (.cons (.ix (.var 5) (.con (.int 1))) (.cons (.rev (.ix (.var 5) (.con (.int 1)))) .nil))) (.cons (.tup (.cons (.ix (.var 5) (.con (.int 0))) (.cons (.ix (.var 5) (.con (.int 0))) .nil))) .nil))))) (.cons (.ite (.not (.call "_law_equal_right" 3 f_law_equal_right (.cons (.var 8) (.cons (.var 9) (.cons (.var 3) .nil))))) (.cons (.ret (.con (.bl false)))
 .nil) .nil)
 .nil))
 (.cons (.ite (.and (.var 4) (.not (.call "_law_limits_right" 2 f_law_limits_right (.cons (.var 2) (.cons (.var 3) .nil))))) (.cons (.ret (.con (.bl false)))
 .nil) .nil)
 .nil)))))))
 (.cons (.ret (.con (.bl true)))
 .nil))
noncomputable def f_law : Sem := runF true 10 b_law
end K24
-- K24C
namespace K24
open Py PySem PySem.Spec PyProof.Rows L2
def top (i : Nat) : Stmt := PySem.Challenge.pw_ringsandfilms_k24_films.main.body.getD i (.Pass ⟨0, 0, 0, 0⟩)
abbrev s_RingError__init_ : Stmt := inClass (top 1) 0
abbrev s_is_whole : Stmt := top 4
abbrev s_is_name : Stmt := top 8
abbrev s_is_glued : Stmt := top 14
abbrev s_is_side : Stmt := top 15
abbrev s_spots_of : Stmt := top 16
abbrev s_are_polygons : Stmt := top 17
abbrev s_Film__init_ : Stmt := inClass (top 18) 0
abbrev s_Film__eq_ : Stmt := inClass (top 18) 1
abbrev s_law_cell : Stmt := top 20
abbrev s_law_box : Stmt := top 21
abbrev s_law_take : Stmt := top 22
abbrev s_law_mixed : Stmt := top 23
abbrev s_law_same : Stmt := top 24
abbrev s_law_fresh : Stmt := top 25
abbrev s_law_blamed : Stmt := top 26
abbrev s_law_film : Stmt := top 27
abbrev s_law_is_name : Stmt := top 28
abbrev s_law_are_polygons : Stmt := top 29
abbrev s_law_great : Stmt := top 30
abbrev s_law_made : Stmt := top 31
abbrev s_law_near : Stmt := top 32
abbrev s_law_values_right : Stmt := top 33
abbrev s_law_equal_right : Stmt := top 34
abbrev s_law_limits_right : Stmt := top 35
abbrev s_law : Stmt := top 36
theorem c_law_box : (chkS N_law_box (b_law_box)).ss (defScope s_law_box) (defBody s_law_box) = true := by decide +kernel
theorem c_law_cell : (chkS N_law_cell (b_law_cell)).ss (defScope s_law_cell) (defBody s_law_cell) = true := by decide +kernel
theorem c_law_take : (chkS N_law_take (b_law_take)).ss (defScope s_law_take) (defBody s_law_take) = true := by decide +kernel
theorem c_law_mixed : (chkS N_law_mixed (b_law_mixed)).ss (defScope s_law_mixed) (defBody s_law_mixed) = true := by decide +kernel
theorem c_law_film : (chkS N_law_film (b_law_film)).ss (defScope s_law_film) (defBody s_law_film) = true := by decide +kernel
theorem c_is_glued : (chkS N_is_glued (b_is_glued)).ss (defScope s_is_glued) (defBody s_is_glued) = true := by decide +kernel
theorem c_spots_of : (chkS N_spots_of (b_spots_of)).ss (defScope s_spots_of) (defBody s_spots_of) = true := by decide +kernel
theorem c_is_name : (chkS N_is_name (b_is_name)).ss (defScope s_is_name) (defBody s_is_name) = true := by decide +kernel
theorem c_is_whole : (chkS N_is_whole (b_is_whole)).ss (defScope s_is_whole) (defBody s_is_whole) = true := by decide +kernel
theorem c_is_side : (chkS N_is_side (b_is_side)).ss (defScope s_is_side) (defBody s_is_side) = true := by decide +kernel
theorem c_are_polygons : (chkS N_are_polygons (b_are_polygons)).ss (defScope s_are_polygons) (defBody s_are_polygons) = true := by decide +kernel
theorem c_Film__init_ : (chkS N_Film__init_ (b_Film__init_)).ss (defScope s_Film__init_) (defBody s_Film__init_) = true := by decide +kernel
theorem c_law_made : (chkS N_law_made (b_law_made)).ss (defScope s_law_made) (defBody s_law_made) = true := by decide +kernel
theorem c_law_near : (chkS N_law_near (b_law_near)).ss (defScope s_law_near) (defBody s_law_near) = true := by decide +kernel
theorem c_law_is_name : (chkS N_law_is_name (b_law_is_name)).ss (defScope s_law_is_name) (defBody s_law_is_name) = true := by decide +kernel
theorem c_law_are_polygons : (chkS N_law_are_polygons (b_law_are_polygons)).ss (defScope s_law_are_polygons) (defBody s_law_are_polygons) = true := by decide +kernel
theorem c_law_fresh : (chkS N_law_fresh (b_law_fresh)).ss (defScope s_law_fresh) (defBody s_law_fresh) = true := by decide +kernel
theorem c_law_same (r : Sem) : (chkS N_law_same (b_law_same r)).ss (defScope s_law_same) (defBody s_law_same) = true := by kernel_rfl
theorem c_law_blamed : (chkS N_law_blamed (b_law_blamed)).ss (defScope s_law_blamed) (defBody s_law_blamed) = true := by decide +kernel
theorem c_Film__eq_ : (chkS N_Film__eq_ (b_Film__eq_)).ss (defScope s_Film__eq_) (defBody s_Film__eq_) = true := by decide +kernel
theorem c_law_values_right : (chkS N_law_values_right (b_law_values_right)).ss (defScope s_law_values_right) (defBody s_law_values_right) = true := by decide +kernel
theorem c_law_equal_right : (chkS N_law_equal_right (b_law_equal_right)).ss (defScope s_law_equal_right) (defBody s_law_equal_right) = true := by decide +kernel
theorem c_law_great : (chkS N_law_great (b_law_great)).ss (defScope s_law_great) (defBody s_law_great) = true := by decide +kernel
theorem c_law_limits_right : (chkS N_law_limits_right (b_law_limits_right)).ss (defScope s_law_limits_right) (defBody s_law_limits_right) = true := by decide +kernel
theorem c_law : (chkS N_law (b_law)).ss (defScope s_law) (defBody s_law) = true := by decide +kernel
end K24
-- K24H
namespace K24
open Py PySem PySem.Spec PyProof.Rows L2
def d_law_box : He.DefD := ⟨("_law_box", none), "_law_box", "_law_box", defArgs s_law_box, defBody s_law_box, defScope s_law_box, [], []⟩
def d_law_cell : He.DefD := ⟨("_law_cell", none), "_law_cell", "_law_cell", defArgs s_law_cell, defBody s_law_cell, defScope s_law_cell, [], []⟩
def d_law_take : He.DefD := ⟨("_law_take", none), "_law_take", "_law_take", defArgs s_law_take, defBody s_law_take, defScope s_law_take, [], []⟩
def d_law_mixed : He.DefD := ⟨("_law_mixed", none), "_law_mixed", "_law_mixed", defArgs s_law_mixed, defBody s_law_mixed, defScope s_law_mixed, [], []⟩
def d_law_film : He.DefD := ⟨("_law_film", none), "_law_film", "_law_film", defArgs s_law_film, defBody s_law_film, defScope s_law_film, [], []⟩
def d_is_glued : He.DefD := ⟨("is_glued", none), "is_glued", "is_glued", defArgs s_is_glued, defBody s_is_glued, defScope s_is_glued, [], []⟩
def d_spots_of : He.DefD := ⟨("spots_of", none), "spots_of", "spots_of", defArgs s_spots_of, defBody s_spots_of, defScope s_spots_of, [], []⟩
def d_is_name : He.DefD := ⟨("is_name", none), "is_name", "is_name", defArgs s_is_name, defBody s_is_name, defScope s_is_name, [], []⟩
def d_is_whole : He.DefD := ⟨("is_whole", none), "is_whole", "is_whole", defArgs s_is_whole, defBody s_is_whole, defScope s_is_whole, [], []⟩
def d_is_side : He.DefD := ⟨("is_side", none), "is_side", "is_side", defArgs s_is_side, defBody s_is_side, defScope s_is_side, [], []⟩
def d_are_polygons : He.DefD := ⟨("are_polygons", none), "are_polygons", "are_polygons", defArgs s_are_polygons, defBody s_are_polygons, defScope s_are_polygons, [], []⟩
def d_Film__init_ : He.DefD := ⟨("Film", some "__init__"), "__init__", "Film.__init__", defArgs s_Film__init_, defBody s_Film__init_, defScope s_Film__init_, [], []⟩
def d_law_made : He.DefD := ⟨("_law_made", none), "_law_made", "_law_made", defArgs s_law_made, defBody s_law_made, defScope s_law_made, [], []⟩
def d_law_near : He.DefD := ⟨("_law_near", none), "_law_near", "_law_near", defArgs s_law_near, defBody s_law_near, defScope s_law_near, [], []⟩
def d_law_is_name : He.DefD := ⟨("_law_is_name", none), "_law_is_name", "_law_is_name", defArgs s_law_is_name, defBody s_law_is_name, defScope s_law_is_name, [], []⟩
def d_law_are_polygons : He.DefD := ⟨("_law_are_polygons", none), "_law_are_polygons", "_law_are_polygons", defArgs s_law_are_polygons, defBody s_law_are_polygons, defScope s_law_are_polygons, [], []⟩
def d_law_fresh : He.DefD := ⟨("_law_fresh", none), "_law_fresh", "_law_fresh", defArgs s_law_fresh, defBody s_law_fresh, defScope s_law_fresh, [], []⟩
def d_law_same : He.DefD := ⟨("_law_same", none), "_law_same", "_law_same", defArgs s_law_same, defBody s_law_same, defScope s_law_same, [], []⟩
def d_law_blamed : He.DefD := ⟨("_law_blamed", none), "_law_blamed", "_law_blamed", defArgs s_law_blamed, defBody s_law_blamed, defScope s_law_blamed, [], []⟩
def d_Film__eq_ : He.DefD := ⟨("Film", some "__eq__"), "__eq__", "Film.__eq__", defArgs s_Film__eq_, defBody s_Film__eq_, defScope s_Film__eq_, [], []⟩
def d_law_values_right : He.DefD := ⟨("_law_values_right", none), "_law_values_right", "_law_values_right", defArgs s_law_values_right, defBody s_law_values_right, defScope s_law_values_right, [], []⟩
def d_law_equal_right : He.DefD := ⟨("_law_equal_right", none), "_law_equal_right", "_law_equal_right", defArgs s_law_equal_right, defBody s_law_equal_right, defScope s_law_equal_right, [], []⟩
def d_law_great : He.DefD := ⟨("_law_great", none), "_law_great", "_law_great", defArgs s_law_great, defBody s_law_great, defScope s_law_great, [], []⟩
def d_law_limits_right : He.DefD := ⟨("_law_limits_right", none), "_law_limits_right", "_law_limits_right", defArgs s_law_limits_right, defBody s_law_limits_right, defScope s_law_limits_right, [], []⟩
def d_law : He.DefD := ⟨("law", none), "law", "law", defArgs s_law, defBody s_law, defScope s_law, [], []⟩
def fn : List He.DefD := ([d_law_box, d_law_cell, d_law_take, d_law_mixed, d_law_film, d_is_glued, d_spots_of, d_is_name, d_is_whole, d_is_side, d_are_polygons, d_Film__init_, d_law_made, d_law_near, d_law_is_name, d_law_are_polygons, d_law_fresh, d_law_same, d_law_blamed, d_Film__eq_, d_law_values_right, d_law_equal_right, d_law_great, d_law_limits_right, d_law] : List He.DefD)
def fa : List He.Fa := ([.glo "_law_box", .glo "_law_cell", .glo "_law_take", .glo "_law_mixed", .glo "_law_film", .glo "is_glued", .glo "spots_of", .glo "is_name", .glo "is_whole", .glo "is_side", .glo "are_polygons", .glo "Film", .glo "_law_made", .glo "_law_near", .glo "_law_is_name", .glo "_law_are_polygons", .glo "_law_fresh", .glo "_law_same", .glo "_law_blamed", .glo "Film", .glo "_law_values_right", .glo "_law_equal_right", .glo "_law_great", .glo "_law_limits_right", .glo "law", .glo "Film", .glo "InvalidPolygons", .int "MOST_NAME" 12, .str "SIGNS" "abcdefghijklmnopqrstuvwxyz", .int "MOST_POLYGONS" 12] : List He.Fa) ++ ([.int "MOST_SIDES" 24, .int "MOST_ALL" 40, .int "MOST_NAMES" 8, .free "len", .free "abs", .free "int", .free "max", .free "min", .free "sum", .free "all", .free "any", .free "sorted", .free "list", .free "tuple", .free "dict", .free "range", .free "isinstance", .free "bool", .free "str", .free "enumerate", .free "zip", .free "set", .free "reversed"] : List He.Fa)
def loose : List PySem.Str := (["RingError", "InvalidPolygons", "is_whole", "MOST_NAME", "SIGNS", "is_name", "MOST_POLYGONS", "MOST_SIDES", "MOST_ALL", "MOST_NAMES", "is_glued", "is_side", "spots_of", "are_polygons", "Film", "_law_cell", "_law_box", "_law_take", "_law_mixed", "_law_same", "_law_fresh", "_law_blamed", "_law_film", "_law_is_name", "_law_are_polygons", "_law_great", "_law_made", "_law_near", "_law_values_right", "_law_equal_right"] : List PySem.Str) ++ (["_law_limits_right"] : List PySem.Str)
abbrev R : PySem.W.OpenRow := PySem.W.OpenLaw.row PySem.Challenge.rw_ringsandfilms_k24_films
abbrev PP : Program := PySem.Challenge.rw_ringsandfilms_k24_films.prog
def xtra (K : PySem.W.Frag) : Bool := xKit K [("Film" : Str)] && ((He.Fa.noat "Film" "polygons").ok K && ((He.Fa.mkr "Film").ok K && ((He.Fa.meth "Film" "__eq__").ok K && (xNot K [("Film" : Str)] "Film" && (xExc K "RingError" "InvalidPolygons" && (xSup PP K "RingError" && ((He.Fa.exm "InvalidPolygons" "InvalidPolygons" true).ok K)))))))
def supV : SupW := some (defArgs s_RingError__init_, .stmts (defBody s_RingError__init_), defScope s_RingError__init_)
abbrev hk : PySem.W.Hook := hookY 6 fa fn xtra "RingError" supV
def ob (s : PySem.W.SharedT) : AlY := obY 6 fa fn xtra "RingError" (HandSHeadRun.getT s)
theorem ob_eq (s : PySem.W.SharedT) : ob s = hk.obs s.abs := obY_eq (HandSHeadRun.getT_eq s)
theorem run (w : World) : HandSHeadRun.RunEqI R (PySem.W.view R.prog [36]) hk ob 20000 loose w := by
  unfold HandSHeadRun.RunEqI
  kernel_rfl
end K24
-- K24J
namespace K24
open Py PySem PySem.Spec PyProof.Rows L2
variable {g : Py.Gx}
/-- what the head tells -/
structure KF (g : Py.Gx) : Prop where
  G : GOk g
  c : He.SaysD fa fn g.B.K
  gl : ∀ (i : Nat) (d : He.DefD), fn[i]? = some d → g.mg d.at_.1 = some (.ref (He.ga g.B.K d.at_.1))
  cls : g.B.cls = [("Film" : Str)]
  na_Film_polygons : NoAttr g.B.K (He.ga g.B.K "Film") "polygons"
  gMOST_NAME : ∃ u, g.mg "MOST_NAME" = some u ∧ ∃ v, RelV v u ∧ ∀ ρ H, Rep g.B ρ H (.int 12) v
  gSIGNS : ∃ u, g.mg "SIGNS" = some u ∧ ∃ v, RelV v u ∧ ∀ ρ H, Rep g.B ρ H (.str "abcdefghijklmnopqrstuvwxyz") v
  gMOST_POLYGONS : ∃ u, g.mg "MOST_POLYGONS" = some u ∧ ∃ v, RelV v u ∧ ∀ ρ H, Rep g.B ρ H (.int 12) v
  gMOST_SIDES : ∃ u, g.mg "MOST_SIDES" = some u ∧ ∃ v, RelV v u ∧ ∀ ρ H, Rep g.B ρ H (.int 24) v
  gMOST_ALL : ∃ u, g.mg "MOST_ALL" = some u ∧ ∃ v, RelV v u ∧ ∀ ρ H, Rep g.B ρ H (.int 40) v
  gMOST_NAMES : ∃ u, g.mg "MOST_NAMES" = some u ∧ ∃ v, RelV v u ∧ ∀ ρ H, Rep g.B ρ H (.int 8) v
  mk_Film : Mk g.B.K (He.ga g.B.K "Film") (He.ma g.B.K (He.ga g.B.K "Film") "__init__")
  eq_Film : Meth g.B.K (He.ga g.B.K "Film") "__eq__" (He.ma g.B.K (He.ga g.B.K "Film") "__eq__") ∧ xNot g.B.K g.B.cls "Film" = true
  exc_InvalidPolygons : ∀ k, 2 ≤ k → ExcSem g k "InvalidPolygons" (fGiven "InvalidPolygons")
  hd0 : OkH g ⟨"InvalidPolygons", true, [("InvalidPolygons", true)], (some 3), (.lst (.cons (.con (.str "polygons")) (.cons (.fld 3 "given") .nil)))⟩
theorem s_law_box_sc : C8.scC N_law_box [("great" : Str)] (defScope s_law_box) = true := by decide +kernel
theorem ok_law_box (F : KF g) : OkS g 1 b_law_box := by
  simp [b_law_box, OkS, OkE, clOk, clB, prim_len, prim_abs, prim_int, prim_sum, prim_all, prim_any, prim_min, prim_max2, prim_min2, prim_sorted, prim_list, prim_tuple, prim_dict2, meth_append, meth_pop, meth_extend, meth_get, meth_setdefault, F.cls, F.na_Film_polygons, F.gMOST_NAME, F.gSIGNS, F.gMOST_POLYGONS, F.gMOST_SIDES, F.gMOST_ALL, F.gMOST_NAMES]
theorem q_law_box (F : KF g) : FnSem g 2 "_law_box" 1 f_law_box := by
  obtain ⟨fd, D⟩ := F.c.def_ 0 (d := d_law_box) rfl
  exact FnSem.of (N := N_law_box) (ps := [("great" : Str)]) (b := b_law_box) F.G D (F.gl 0 _ rfl) s_law_box_sc c_law_box (fun _ _ _ _ _ _ us hl => match us, hl with | [_], _ => rfl) (ok_law_box F)
theorem s_law_cell_sc : C8.scC N_law_cell [("script" : Str), ("k" : Str)] (defScope s_law_cell) = true := by decide +kernel
theorem ok_law_cell (F : KF g) : OkS g 1 b_law_cell := by
  simp [b_law_cell, OkS, OkE, clOk, clB, prim_len, prim_abs, prim_int, prim_sum, prim_all, prim_any, prim_min, prim_max2, prim_min2, prim_sorted, prim_list, prim_tuple, prim_dict2, meth_append, meth_pop, meth_extend, meth_get, meth_setdefault, F.cls, F.na_Film_polygons, F.gMOST_NAME, F.gSIGNS, F.gMOST_POLYGONS, F.gMOST_SIDES, F.gMOST_ALL, F.gMOST_NAMES]
theorem q_law_cell (F : KF g) : FnSem g 2 "_law_cell" 2 f_law_cell := by
  obtain ⟨fd, D⟩ := F.c.def_ 1 (d := d_law_cell) rfl
  exact FnSem.of (N := N_law_cell) (ps := [("script" : Str), ("k" : Str)]) (b := b_law_cell) F.G D (F.gl 1 _ rfl) s_law_cell_sc c_law_cell (fun _ _ _ _ _ _ us hl => match us, hl with | [_, _], _ => rfl) (ok_law_cell F)
theorem s_law_take_sc : C8.scC N_law_take [("box" : Str), ("many" : Str)] (defScope s_law_take) = true := by decide +kernel
theorem ok_law_take (F : KF g) : OkS g 1 b_law_take := by
  simp [b_law_take, OkS, OkE, clOk, clB, prim_len, prim_abs, prim_int, prim_sum, prim_all, prim_any, prim_min, prim_max2, prim_min2, prim_sorted, prim_list, prim_tuple, prim_dict2, meth_append, meth_pop, meth_extend, meth_get, meth_setdefault, F.cls, F.na_Film_polygons, F.gMOST_NAME, F.gSIGNS, F.gMOST_POLYGONS, F.gMOST_SIDES, F.gMOST_ALL, F.gMOST_NAMES]
theorem q_law_take (F : KF g) : FnSem g 2 "_law_take" 2 f_law_take := by
  obtain ⟨fd, D⟩ := F.c.def_ 2 (d := d_law_take) rfl
  exact FnSem.of (N := N_law_take) (ps := [("box" : Str), ("many" : Str)]) (b := b_law_take) F.G D (F.gl 2 _ rfl) s_law_take_sc c_law_take (fun _ _ _ _ _ _ us hl => match us, hl with | [_, _], _ => rfl) (ok_law_take F)
theorem s_law_mixed_sc : C8.scC N_law_mixed [("box" : Str), ("items" : Str)] (defScope s_law_mixed) = true := by decide +kernel
theorem ok_law_mixed (F : KF g) : OkS g 2 b_law_mixed := by
  have h_law_take := (q_law_take F).mono (k := 2) (by decide)
  simp [b_law_mixed, OkS, OkE, clOk, clB, prim_len, prim_abs, prim_int, prim_sum, prim_all, prim_any, prim_min, prim_max2, prim_min2, prim_sorted, prim_list, prim_tuple, prim_dict2, meth_append, meth_pop, meth_extend, meth_get, meth_setdefault, F.cls, F.na_Film_polygons, F.gMOST_NAME, F.gSIGNS, F.gMOST_POLYGONS, F.gMOST_SIDES, F.gMOST_ALL, F.gMOST_NAMES, h_law_take]
theorem q_law_mixed (F : KF g) : FnSem g 3 "_law_mixed" 2 f_law_mixed := by
  obtain ⟨fd, D⟩ := F.c.def_ 3 (d := d_law_mixed) rfl
  exact FnSem.of (N := N_law_mixed) (ps := [("box" : Str), ("items" : Str)]) (b := b_law_mixed) F.G D (F.gl 3 _ rfl) s_law_mixed_sc c_law_mixed (fun _ _ _ _ _ _ us hl => match us, hl with | [_, _], _ => rfl) (ok_law_mixed F)
theorem s_law_film_sc : C8.scC N_law_film [("box" : Str), ("straight" : Str), ("glued" : Str), ("letters" : Str), ("most" : Str)] (defScope s_law_film) = true := by decide +kernel
theorem ok_law_film (F : KF g) : OkS g 3 b_law_film := by
  have h_law_mixed := (q_law_mixed F).mono (k := 3) (by decide)
  have h_law_take := (q_law_take F).mono (k := 3) (by decide)
  simp [b_law_film, OkS, OkE, clOk, clB, prim_len, prim_abs, prim_int, prim_sum, prim_all, prim_any, prim_min, prim_max2, prim_min2, prim_sorted, prim_list, prim_tuple, prim_dict2, meth_append, meth_pop, meth_extend, meth_get, meth_setdefault, F.cls, F.na_Film_polygons, F.gMOST_NAME, F.gSIGNS, F.gMOST_POLYGONS, F.gMOST_SIDES, F.gMOST_ALL, F.gMOST_NAMES, h_law_mixed, h_law_take]
theorem q_law_film (F : KF g) : FnSem g 4 "_law_film" 5 f_law_film := by
  obtain ⟨fd, D⟩ := F.c.def_ 4 (d := d_law_film) rfl
  exact FnSem.of (N := N_law_film) (ps := [("box" : Str), ("straight" : Str), ("glued" : Str), ("letters" : Str), ("most" : Str)]) (b := b_law_film) F.G D (F.gl 4 _ rfl) s_law_film_sc c_law_film (fun _ _ _ _ _ _ us hl => match us, hl with | [_, _, _, _, _], _ => rfl) (ok_law_film F)
theorem s_is_glued_sc : C8.scC N_is_glued [("side" : Str)] (defScope s_is_glued) = true := by decide +kernel
theorem ok_is_glued (F : KF g) : OkS g 1 b_is_glued := by
  simp [b_is_glued, OkS, OkE, clOk, clB, prim_len, prim_abs, prim_int, prim_sum, prim_all, prim_any, prim_min, prim_max2, prim_min2, prim_sorted, prim_list, prim_tuple, prim_dict2, meth_append, meth_pop, meth_extend, meth_get, meth_setdefault, F.cls, F.na_Film_polygons, F.gMOST_NAME, F.gSIGNS, F.gMOST_POLYGONS, F.gMOST_SIDES, F.gMOST_ALL, F.gMOST_NAMES]
theorem q_is_glued (F : KF g) : FnSem g 2 "is_glued" 1 f_is_glued := by
  obtain ⟨fd, D⟩ := F.c.def_ 5 (d := d_is_glued) rfl
  exact FnSem.of (N := N_is_glued) (ps := [("side" : Str)]) (b := b_is_glued) F.G D (F.gl 5 _ rfl) s_is_glued_sc c_is_glued (fun _ _ _ _ _ _ us hl => match us, hl with | [_], _ => rfl) (ok_is_glued F)
theorem s_spots_of_sc : C8.scC N_spots_of [("polygons" : Str)] (defScope s_spots_of) = true := by decide +kernel
theorem ok_spots_of (F : KF g) : OkS g 2 b_spots_of := by
  have h_is_glued := (q_is_glued F).mono (k := 2) (by decide)
  simp [b_spots_of, OkS, OkE, clOk, clB, prim_len, prim_abs, prim_int, prim_sum, prim_all, prim_any, prim_min, prim_max2, prim_min2, prim_sorted, prim_list, prim_tuple, prim_dict2, meth_append, meth_pop, meth_extend, meth_get, meth_setdefault, F.cls, F.na_Film_polygons, F.gMOST_NAME, F.gSIGNS, F.gMOST_POLYGONS, F.gMOST_SIDES, F.gMOST_ALL, F.gMOST_NAMES, h_is_glued]
theorem q_spots_of (F : KF g) : FnSem g 3 "spots_of" 1 f_spots_of := by
  obtain ⟨fd, D⟩ := F.c.def_ 6 (d := d_spots_of) rfl
  exact FnSem.of (N := N_spots_of) (ps := [("polygons" : Str)]) (b := b_spots_of) F.G D (F.gl 6 _ rfl) s_spots_of_sc c_spots_of (fun _ _ _ _ _ _ us hl => match us, hl with | [_], _ => rfl) (ok_spots_of F)
theorem s_is_name_sc : C8.scC N_is_name [("value" : Str)] (defScope s_is_name) = true := by decide +kernel
theorem ok_is_name (F : KF g) : OkS g 1 b_is_name := by
  simp [b_is_name, OkS, OkE, clOk, clB, prim_len, prim_abs, prim_int, prim_sum, prim_all, prim_any, prim_min, prim_max2, prim_min2, prim_sorted, prim_list, prim_tuple, prim_dict2, meth_append, meth_pop, meth_extend, meth_get, meth_setdefault, F.cls, F.na_Film_polygons, F.gMOST_NAME, F.gSIGNS, F.gMOST_POLYGONS, F.gMOST_SIDES, F.gMOST_ALL, F.gMOST_NAMES]
theorem q_is_name (F : KF g) : FnSem g 2 "is_name" 1 f_is_name := by
  obtain ⟨fd, D⟩ := F.c.def_ 7 (d := d_is_name) rfl
  exact FnSem.of (N := N_is_name) (ps := [("value" : Str)]) (b := b_is_name) F.G D (F.gl 7 _ rfl) s_is_name_sc c_is_name (fun _ _ _ _ _ _ us hl => match us, hl with | [_], _ => rfl) (ok_is_name F)
theorem s_is_whole_sc : C8.scC N_is_whole [("value" : Str)] (defScope s_is_whole) = true := by decide +kernel
theorem ok_is_whole (F : KF g) : OkS g 1 b_is_whole := by
  simp [b_is_whole, OkS, OkE, clOk, clB, prim_len, prim_abs, prim_int, prim_sum, prim_all, prim_any, prim_min, prim_max2, prim_min2, prim_sorted, prim_list, prim_tuple, prim_dict2, meth_append, meth_pop, meth_extend, meth_get, meth_setdefault, F.cls, F.na_Film_polygons, F.gMOST_NAME, F.gSIGNS, F.gMOST_POLYGONS, F.gMOST_SIDES, F.gMOST_ALL, F.gMOST_NAMES]
theorem q_is_whole (F : KF g) : FnSem g 2 "is_whole" 1 f_is_whole := by
  obtain ⟨fd, D⟩ := F.c.def_ 8 (d := d_is_whole) rfl
  exact FnSem.of (N := N_is_whole) (ps := [("value" : Str)]) (b := b_is_whole) F.G D (F.gl 8 _ rfl) s_is_whole_sc c_is_whole (fun _ _ _ _ _ _ us hl => match us, hl with | [_], _ => rfl) (ok_is_whole F)
theorem s_is_side_sc : C8.scC N_is_side [("value" : Str)] (defScope s_is_side) = true := by decide +kernel
theorem ok_is_side (F : KF g) : OkS g 2 b_is_side := by
  have h_is_name := (q_is_name F).mono (k := 2) (by decide)
  have h_is_whole := (q_is_whole F).mono (k := 2) (by decide)
  simp [b_is_side, OkS, OkE, clOk, clB, prim_len, prim_abs, prim_int, prim_sum, prim_all, prim_any, prim_min, prim_max2, prim_min2, prim_sorted, prim_list, prim_tuple, prim_dict2, meth_append, meth_pop, meth_extend, meth_get, meth_setdefault, F.cls, F.na_Film_polygons, F.gMOST_NAME, F.gSIGNS, F.gMOST_POLYGONS, F.gMOST_SIDES, F.gMOST_ALL, F.gMOST_NAMES, h_is_name, h_is_whole]
theorem q_is_side (F : KF g) : FnSem g 3 "is_side" 1 f_is_side := by
  obtain ⟨fd, D⟩ := F.c.def_ 9 (d := d_is_side) rfl
  exact FnSem.of (N := N_is_side) (ps := [("value" : Str)]) (b := b_is_side) F.G D (F.gl 9 _ rfl) s_is_side_sc c_is_side (fun _ _ _ _ _ _ us hl => match us, hl with | [_], _ => rfl) (ok_is_side F)
theorem s_are_polygons_sc : C8.scC N_are_polygons [("value" : Str)] (defScope s_are_polygons) = true := by decide +kernel
theorem ok_are_polygons (F : KF g) : OkS g 3 b_are_polygons := by
  have h_is_side := (q_is_side F).mono (k := 3) (by decide)
  have h_spots_of := (q_spots_of F).mono (k := 3) (by decide)
  simp [b_are_polygons, OkS, OkE, clOk, clB, prim_len, prim_abs, prim_int, prim_sum, prim_all, prim_any, prim_min, prim_max2, prim_min2, prim_sorted, prim_list, prim_tuple, prim_dict2, meth_append, meth_pop, meth_extend, meth_get, meth_setdefault, F.cls, F.na_Film_polygons, F.gMOST_NAME, F.gSIGNS, F.gMOST_POLYGONS, F.gMOST_SIDES, F.gMOST_ALL, F.gMOST_NAMES, h_is_side, h_spots_of]
theorem q_are_polygons (F : KF g) : FnSem g 4 "are_polygons" 1 f_are_polygons := by
  obtain ⟨fd, D⟩ := F.c.def_ 10 (d := d_are_polygons) rfl
  exact FnSem.of (N := N_are_polygons) (ps := [("value" : Str)]) (b := b_are_polygons) F.G D (F.gl 10 _ rfl) s_are_polygons_sc c_are_polygons (fun _ _ _ _ _ _ us hl => match us, hl with | [_], _ => rfl) (ok_are_polygons F)
theorem s_Film__init__sc : C8.scC N_Film__init_ [("self" : Str), ("polygons" : Str)] (defScope s_Film__init_) = true := by decide +kernel
theorem ok_Film__init_ (F : KF g) : OkS g 4 b_Film__init_ := by
  have h_are_polygons := (q_are_polygons F).mono (k := 4) (by decide)
  have xInvalidPolygons := F.exc_InvalidPolygons (4) (by decide)
  simp [b_Film__init_, OkS, OkE, clOk, clB, prim_len, prim_abs, prim_int, prim_sum, prim_all, prim_any, prim_min, prim_max2, prim_min2, prim_sorted, prim_list, prim_tuple, prim_dict2, meth_append, meth_pop, meth_extend, meth_get, meth_setdefault, F.cls, F.na_Film_polygons, F.gMOST_NAME, F.gSIGNS, F.gMOST_POLYGONS, F.gMOST_SIDES, F.gMOST_ALL, F.gMOST_NAMES, h_are_polygons, xInvalidPolygons]
theorem qm_Film (F : KF g) : MkSem g 6 "Film" 1 f_Film__init_ := by
  obtain ⟨fd, D⟩ := F.c.def_ 11 (d := d_Film__init_) rfl
  exact MkSem.of (N := N_Film__init_) (ps := [("self" : Str), ("polygons" : Str)]) (b := b_Film__init_) F.G (by simp [F.cls]) F.mk_Film D s_Film__init__sc c_Film__init_ (fun _ _ _ _ _ _ us hl => match us, hl with | [_, _], _ => rfl) rfl (ok_Film__init_ F)
theorem wm_Film_0_polygons_0 (F : KF g) : MkkSem g 6 "Film" f_Film__init_ 0 ["polygons"] [0] := by
  obtain ⟨fd, D⟩ := F.c.def_ 11 (d := d_Film__init_) rfl
  exact MkkSem.of (N := N_Film__init_) (ps := [("self" : Str), ("polygons" : Str)]) (b := b_Film__init_) F.G (by simp [F.cls]) F.mk_Film D s_Film__init__sc c_Film__init_ (fun _ _ _ _ _ _ us ws h1 h2 => match us, ws, h1, h2 with | [_], [_], _, _ => rfl) rfl (ok_Film__init_ F)
theorem s_law_made_sc : C8.scC N_law_made [("value" : Str), ("named" : Str)] (defScope s_law_made) = true := by decide +kernel
theorem ok_law_made (F : KF g) : OkS g 6 b_law_made := by
  have m_Film := (qm_Film F).mono (k := 6) (by decide)
  have mk_Film_0_polygons_0 := (wm_Film_0_polygons_0 F).mono (k := 6) (by decide)
  simp [b_law_made, OkS, OkE, clOk, clB, prim_len, prim_abs, prim_int, prim_sum, prim_all, prim_any, prim_min, prim_max2, prim_min2, prim_sorted, prim_list, prim_tuple, prim_dict2, meth_append, meth_pop, meth_extend, meth_get, meth_setdefault, F.cls, F.na_Film_polygons, F.gMOST_NAME, F.gSIGNS, F.gMOST_POLYGONS, F.gMOST_SIDES, F.gMOST_ALL, F.gMOST_NAMES, m_Film, mk_Film_0_polygons_0, F.hd0]
theorem q_law_made (F : KF g) : FnSem g 7 "_law_made" 2 f_law_made := by
  obtain ⟨fd, D⟩ := F.c.def_ 12 (d := d_law_made) rfl
  exact FnSem.of (N := N_law_made) (ps := [("value" : Str), ("named" : Str)]) (b := b_law_made) F.G D (F.gl 12 _ rfl) s_law_made_sc c_law_made (fun _ _ _ _ _ _ us hl => match us, hl with | [_, _], _ => rfl) (ok_law_made F)
theorem s_law_near_sc : C8.scC N_law_near [("box" : Str), ("polygons" : Str)] (defScope s_law_near) = true := by decide +kernel
theorem ok_law_near (F : KF g) : OkS g 2 b_law_near := by
  have h_law_take := (q_law_take F).mono (k := 2) (by decide)
  simp [b_law_near, OkS, OkE, clOk, clB, prim_len, prim_abs, prim_int, prim_sum, prim_all, prim_any, prim_min, prim_max2, prim_min2, prim_sorted, prim_list, prim_tuple, prim_dict2, meth_append, meth_pop, meth_extend, meth_get, meth_setdefault, F.cls, F.na_Film_polygons, F.gMOST_NAME, F.gSIGNS, F.gMOST_POLYGONS, F.gMOST_SIDES, F.gMOST_ALL, F.gMOST_NAMES, h_law_take]
theorem q_law_near (F : KF g) : FnSem g 3 "_law_near" 2 f_law_near := by
  obtain ⟨fd, D⟩ := F.c.def_ 13 (d := d_law_near) rfl
  exact FnSem.of (N := N_law_near) (ps := [("box" : Str), ("polygons" : Str)]) (b := b_law_near) F.G D (F.gl 13 _ rfl) s_law_near_sc c_law_near (fun _ _ _ _ _ _ us hl => match us, hl with | [_, _], _ => rfl) (ok_law_near F)
theorem s_law_is_name_sc : C8.scC N_law_is_name [("value" : Str)] (defScope s_law_is_name) = true := by decide +kernel
theorem ok_law_is_name (F : KF g) : OkS g 1 b_law_is_name := by
  simp [b_law_is_name, OkS, OkE, clOk, clB, prim_len, prim_abs, prim_int, prim_sum, prim_all, prim_any, prim_min, prim_max2, prim_min2, prim_sorted, prim_list, prim_tuple, prim_dict2, meth_append, meth_pop, meth_extend, meth_get, meth_setdefault, F.cls, F.na_Film_polygons, F.gMOST_NAME, F.gSIGNS, F.gMOST_POLYGONS, F.gMOST_SIDES, F.gMOST_ALL, F.gMOST_NAMES]
theorem q_law_is_name (F : KF g) : FnSem g 2 "_law_is_name" 1 f_law_is_name := by
  obtain ⟨fd, D⟩ := F.c.def_ 14 (d := d_law_is_name) rfl
  exact FnSem.of (N := N_law_is_name) (ps := [("value" : Str)]) (b := b_law_is_name) F.G D (F.gl 14 _ rfl) s_law_is_name_sc c_law_is_name (fun _ _ _ _ _ _ us hl => match us, hl with | [_], _ => rfl) (ok_law_is_name F)
theorem s_law_are_polygons_sc : C8.scC N_law_are_polygons [("value" : Str)] (defScope s_law_are_polygons) = true := by decide +kernel
theorem ok_law_are_polygons (F : KF g) : OkS g 2 b_law_are_polygons := by
  have h_law_is_name := (q_law_is_name F).mono (k := 2) (by decide)
  simp [b_law_are_polygons, OkS, OkE, clOk, clB, prim_len, prim_abs, prim_int, prim_sum, prim_all, prim_any, prim_min, prim_max2, prim_min2, prim_sorted, prim_list, prim_tuple, prim_dict2, meth_append, meth_pop, meth_extend, meth_get, meth_setdefault, F.cls, F.na_Film_polygons, F.gMOST_NAME, F.gSIGNS, F.gMOST_POLYGONS, F.gMOST_SIDES, F.gMOST_ALL, F.gMOST_NAMES, h_law_is_name]
theorem q_law_are_polygons (F : KF g) : FnSem g 3 "_law_are_polygons" 1 f_law_are_polygons := by
  obtain ⟨fd, D⟩ := F.c.def_ 15 (d := d_law_are_polygons) rfl
  exact FnSem.of (N := N_law_are_polygons) (ps := [("value" : Str)]) (b := b_law_are_polygons) F.G D (F.gl 15 _ rfl) s_law_are_polygons_sc c_law_are_polygons (fun _ _ _ _ _ _ us hl => match us, hl with | [_], _ => rfl) (ok_law_are_polygons F)
theorem s_law_fresh_sc : C8.scC N_law_fresh [("value" : Str)] (defScope s_law_fresh) = true := by decide +kernel
theorem ok_law_fresh (F : KF g) : OkS g 1 b_law_fresh := by
  simp [b_law_fresh, OkS, OkE, clOk, clB, prim_len, prim_abs, prim_int, prim_sum, prim_all, prim_any, prim_min, prim_max2, prim_min2, prim_sorted, prim_list, prim_tuple, prim_dict2, meth_append, meth_pop, meth_extend, meth_get, meth_setdefault, F.cls, F.na_Film_polygons, F.gMOST_NAME, F.gSIGNS, F.gMOST_POLYGONS, F.gMOST_SIDES, F.gMOST_ALL, F.gMOST_NAMES]
theorem q_law_fresh (F : KF g) : FnSem g 2 "_law_fresh" 1 f_law_fresh := by
  obtain ⟨fd, D⟩ := F.c.def_ 16 (d := d_law_fresh) rfl
  exact FnSem.of (N := N_law_fresh) (ps := [("value" : Str)]) (b := b_law_fresh) F.G D (F.gl 16 _ rfl) s_law_fresh_sc c_law_fresh (fun _ _ _ _ _ _ us hl => match us, hl with | [_], _ => rfl) (ok_law_fresh F)
theorem s_law_same_sc : C8.scC N_law_same [("given" : Str), ("due" : Str)] (defScope s_law_same) = true := by decide +kernel
theorem q_law_same (F : KF g) : ∀ n : Nat, FnSem g (1 + n) "_law_same" 2 (f_law_same n)
  | 0 => by
    obtain ⟨fd, D⟩ := F.c.def_ 17 (d := d_law_same) rfl
    exact FnSem.fails (ps := [("given" : Str), ("due" : Str)]) D (F.gl 17 _ rfl) (fun _ _ _ _ _ _ us hl => match us, hl with | [_, _], _ => rfl)
  | n + 1 => by
    obtain ⟨fd, D⟩ := F.c.def_ 17 (d := d_law_same) rfl
    have ih := q_law_same F n
    refine FnSem.of (N := N_law_same) (ps := [("given" : Str), ("due" : Str)]) (b := b_law_same (f_law_same n)) F.G D (F.gl 17 _ rfl) s_law_same_sc (c_law_same _) (fun _ _ _ _ _ _ us hl => match us, hl with | [_, _], _ => rfl) ?_
    simp [b_law_same, OkS, OkE, clOk, clB, prim_len, prim_abs, prim_int, prim_sum, prim_all, prim_any, prim_min, prim_max2, prim_min2, prim_sorted, prim_list, prim_tuple, prim_dict2, meth_append, meth_pop, meth_extend, meth_get, meth_setdefault, F.cls, F.na_Film_polygons, F.gMOST_NAME, F.gSIGNS, F.gMOST_POLYGONS, F.gMOST_SIDES, F.gMOST_ALL, F.gMOST_NAMES, ih]
theorem s_law_blamed_sc : C8.scC N_law_blamed [("given" : Str), ("value" : Str)] (defScope s_law_blamed) = true := by decide +kernel
theorem ok_law_blamed (F : KF g) : OkS g 41 b_law_blamed := by
  have h_law_same := (q_law_same F 40).mono (k := 41) (by decide)
  simp [b_law_blamed, OkS, OkE, clOk, clB, prim_len, prim_abs, prim_int, prim_sum, prim_all, prim_any, prim_min, prim_max2, prim_min2, prim_sorted, prim_list, prim_tuple, prim_dict2, meth_append, meth_pop, meth_extend, meth_get, meth_setdefault, F.cls, F.na_Film_polygons, F.gMOST_NAME, F.gSIGNS, F.gMOST_POLYGONS, F.gMOST_SIDES, F.gMOST_ALL, F.gMOST_NAMES, h_law_same]
theorem q_law_blamed (F : KF g) : FnSem g 42 "_law_blamed" 2 f_law_blamed := by
  obtain ⟨fd, D⟩ := F.c.def_ 18 (d := d_law_blamed) rfl
  exact FnSem.of (N := N_law_blamed) (ps := [("given" : Str), ("value" : Str)]) (b := b_law_blamed) F.G D (F.gl 18 _ rfl) s_law_blamed_sc c_law_blamed (fun _ _ _ _ _ _ us hl => match us, hl with | [_, _], _ => rfl) (ok_law_blamed F)
theorem s_Film__eq__sc : C8.scC N_Film__eq_ [("self" : Str), ("other" : Str)] (defScope s_Film__eq_) = true := by decide +kernel
theorem ok_Film__eq_ (F : KF g) : OkS g 1 b_Film__eq_ := by
  simp [b_Film__eq_, OkS, OkE, clOk, clB, prim_len, prim_abs, prim_int, prim_sum, prim_all, prim_any, prim_min, prim_max2, prim_min2, prim_sorted, prim_list, prim_tuple, prim_dict2, meth_append, meth_pop, meth_extend, meth_get, meth_setdefault, F.cls, F.na_Film_polygons, F.gMOST_NAME, F.gSIGNS, F.gMOST_POLYGONS, F.gMOST_SIDES, F.gMOST_ALL, F.gMOST_NAMES]
theorem qe_Film (F : KF g) : EqSem g 2 "Film" f_Film__eq_ := by
  obtain ⟨fd, D⟩ := F.c.def_ 19 (d := d_Film__eq_) rfl
  exact EqSem.of (N := N_Film__eq_) (ps := [("self" : Str), ("other" : Str)]) (b := b_Film__eq_) F.G (by simp [F.cls]) F.eq_Film.1 F.eq_Film.2 D s_Film__eq__sc c_Film__eq_ (fun _ _ _ _ _ _ us hl => match us, hl with | [_, _], _ => rfl) rfl (ok_Film__eq_ F)
theorem s_law_values_right_sc : C8.scC N_law_values_right [("box" : Str), ("polygons" : Str), ("named" : Str)] (defScope s_law_values_right) = true := by decide +kernel
theorem ok_law_values_right (F : KF g) : OkS g 42 b_law_values_right := by
  have h_law_are_polygons := (q_law_are_polygons F).mono (k := 42) (by decide)
  have h_law_blamed := (q_law_blamed F).mono (k := 42) (by decide)
  have h_law_fresh := (q_law_fresh F).mono (k := 42) (by decide)
  have h_law_made := (q_law_made F).mono (k := 42) (by decide)
  have h_law_near := (q_law_near F).mono (k := 42) (by decide)
  have h_law_same := (q_law_same F 40).mono (k := 42) (by decide)
  have e_Film := (qe_Film F).mono (k := 42) (by decide)
  simp [b_law_values_right, OkS, OkE, clOk, clB, prim_len, prim_abs, prim_int, prim_sum, prim_all, prim_any, prim_min, prim_max2, prim_min2, prim_sorted, prim_list, prim_tuple, prim_dict2, meth_append, meth_pop, meth_extend, meth_get, meth_setdefault, F.cls, F.na_Film_polygons, F.gMOST_NAME, F.gSIGNS, F.gMOST_POLYGONS, F.gMOST_SIDES, F.gMOST_ALL, F.gMOST_NAMES, h_law_are_polygons, h_law_blamed, h_law_fresh, h_law_made, h_law_near, h_law_same, e_Film]
theorem q_law_values_right (F : KF g) : FnSem g 43 "_law_values_right" 3 f_law_values_right := by
  obtain ⟨fd, D⟩ := F.c.def_ 20 (d := d_law_values_right) rfl
  exact FnSem.of (N := N_law_values_right) (ps := [("box" : Str), ("polygons" : Str), ("named" : Str)]) (b := b_law_values_right) F.G D (F.gl 20 _ rfl) s_law_values_right_sc c_law_values_right (fun _ _ _ _ _ _ us hl => match us, hl with | [_, _, _], _ => rfl) (ok_law_values_right F)
theorem s_law_equal_right_sc : C8.scC N_law_equal_right [("one" : Str), ("other" : Str), ("named" : Str)] (defScope s_law_equal_right) = true := by decide +kernel
theorem ok_law_equal_right (F : KF g) : OkS g 41 b_law_equal_right := by
  have h_law_made := (q_law_made F).mono (k := 41) (by decide)
  have h_law_same := (q_law_same F 40).mono (k := 41) (by decide)
  have e_Film := (qe_Film F).mono (k := 41) (by decide)
  simp [b_law_equal_right, OkS, OkE, clOk, clB, prim_len, prim_abs, prim_int, prim_sum, prim_all, prim_any, prim_min, prim_max2, prim_min2, prim_sorted, prim_list, prim_tuple, prim_dict2, meth_append, meth_pop, meth_extend, meth_get, meth_setdefault, F.cls, F.na_Film_polygons, F.gMOST_NAME, F.gSIGNS, F.gMOST_POLYGONS, F.gMOST_SIDES, F.gMOST_ALL, F.gMOST_NAMES, h_law_made, h_law_same, e_Film]
theorem q_law_equal_right (F : KF g) : FnSem g 42 "_law_equal_right" 3 f_law_equal_right := by
  obtain ⟨fd, D⟩ := F.c.def_ 21 (d := d_law_equal_right) rfl
  exact FnSem.of (N := N_law_equal_right) (ps := [("one" : Str), ("other" : Str), ("named" : Str)]) (b := b_law_equal_right) F.G D (F.gl 21 _ rfl) s_law_equal_right_sc c_law_equal_right (fun _ _ _ _ _ _ us hl => match us, hl with | [_, _, _], _ => rfl) (ok_law_equal_right F)
theorem s_law_great_sc : C8.scC N_law_great [("box" : Str), ("straight" : Str)] (defScope s_law_great) = true := by decide +kernel
theorem ok_law_great (F : KF g) : OkS g 3 b_law_great := by
  have h_law_mixed := (q_law_mixed F).mono (k := 3) (by decide)
  have h_law_take := (q_law_take F).mono (k := 3) (by decide)
  simp [b_law_great, OkS, OkE, clOk, clB, prim_len, prim_abs, prim_int, prim_sum, prim_all, prim_any, prim_min, prim_max2, prim_min2, prim_sorted, prim_list, prim_tuple, prim_dict2, meth_append, meth_pop, meth_extend, meth_get, meth_setdefault, F.cls, F.na_Film_polygons, F.gMOST_NAME, F.gSIGNS, F.gMOST_POLYGONS, F.gMOST_SIDES, F.gMOST_ALL, F.gMOST_NAMES, h_law_mixed, h_law_take]
theorem q_law_great (F : KF g) : FnSem g 4 "_law_great" 2 f_law_great := by
  obtain ⟨fd, D⟩ := F.c.def_ 22 (d := d_law_great) rfl
  exact FnSem.of (N := N_law_great) (ps := [("box" : Str), ("straight" : Str)]) (b := b_law_great) F.G D (F.gl 22 _ rfl) s_law_great_sc c_law_great (fun _ _ _ _ _ _ us hl => match us, hl with | [_, _], _ => rfl) (ok_law_great F)
theorem s_law_limits_right_sc : C8.scC N_law_limits_right [("box" : Str), ("named" : Str)] (defScope s_law_limits_right) = true := by decide +kernel
theorem ok_law_limits_right (F : KF g) : OkS g 41 b_law_limits_right := by
  have h_law_are_polygons := (q_law_are_polygons F).mono (k := 41) (by decide)
  have h_law_great := (q_law_great F).mono (k := 41) (by decide)
  have h_law_made := (q_law_made F).mono (k := 41) (by decide)
  have h_law_same := (q_law_same F 40).mono (k := 41) (by decide)
  have h_law_take := (q_law_take F).mono (k := 41) (by decide)
  simp [b_law_limits_right, OkS, OkE, clOk, clB, prim_len, prim_abs, prim_int, prim_sum, prim_all, prim_any, prim_min, prim_max2, prim_min2, prim_sorted, prim_list, prim_tuple, prim_dict2, meth_append, meth_pop, meth_extend, meth_get, meth_setdefault, F.cls, F.na_Film_polygons, F.gMOST_NAME, F.gSIGNS, F.gMOST_POLYGONS, F.gMOST_SIDES, F.gMOST_ALL, F.gMOST_NAMES, h_law_are_polygons, h_law_great, h_law_made, h_law_same, h_law_take]
theorem q_law_limits_right (F : KF g) : FnSem g 42 "_law_limits_right" 2 f_law_limits_right := by
  obtain ⟨fd, D⟩ := F.c.def_ 23 (d := d_law_limits_right) rfl
  exact FnSem.of (N := N_law_limits_right) (ps := [("box" : Str), ("named" : Str)]) (b := b_law_limits_right) F.G D (F.gl 23 _ rfl) s_law_limits_right_sc c_law_limits_right (fun _ _ _ _ _ _ us hl => match us, hl with | [_, _], _ => rfl) (ok_law_limits_right F)
theorem s_law_sc : C8.scC N_law [("script" : Str)] (defScope s_law) = true := by decide +kernel
theorem ok_law (F : KF g) : OkS g 43 b_law := by
  have h_law_box := (q_law_box F).mono (k := 43) (by decide)
  have h_law_cell := (q_law_cell F).mono (k := 43) (by decide)
  have h_law_equal_right := (q_law_equal_right F).mono (k := 43) (by decide)
  have h_law_film := (q_law_film F).mono (k := 43) (by decide)
  have h_law_limits_right := (q_law_limits_right F).mono (k := 43) (by decide)
  have h_law_take := (q_law_take F).mono (k := 43) (by decide)
  have h_law_values_right := (q_law_values_right F).mono (k := 43) (by decide)
  simp [b_law, OkS, OkE, clOk, clB, prim_len, prim_abs, prim_int, prim_sum, prim_all, prim_any, prim_min, prim_max2, prim_min2, prim_sorted, prim_list, prim_tuple, prim_dict2, meth_append, meth_pop, meth_extend, meth_get, meth_setdefault, F.cls, F.na_Film_polygons, F.gMOST_NAME, F.gSIGNS, F.gMOST_POLYGONS, F.gMOST_SIDES, F.gMOST_ALL, F.gMOST_NAMES, h_law_box, h_law_cell, h_law_equal_right, h_law_film, h_law_limits_right, h_law_take, h_law_values_right]
theorem q_law (F : KF g) : FnSem g 44 "law" 1 f_law := by
  obtain ⟨fd, D⟩ := F.c.def_ 24 (d := d_law) rfl
  exact FnSem.of (N := N_law) (ps := [("script" : Str)]) (b := b_law) F.G D (F.gl 24 _ rfl) s_law_sc c_law (fun _ _ _ _ _ _ us hl => match us, hl with | [_], _ => rfl) (ok_law F)
end K24
-- K24A
namespace K24
open Py PySem PySem.Spec PyProof.Rows L2
theorem take_sp {n : Nat} {S : Store} (hb : Bx n S) {m : Int} (h1 : 1 ≤ m) (h2 : m ≤ 1000) {k : D → Store → Prop} {kx : Exn → Store → Prop} (q : ∀ (x : Nat) S', (x : Int) < m → St n S S' → k (.int x) S') : WM (f_law_take [.cell n, .int m] S) k kx := by
  obtain ⟨m, rfl⟩ : ∃ m' : Nat, m = m' := ⟨m.toNat, by omega⟩
  have hn := hb.lt
  obtain ⟨a, b, c, d, e⟩ := hb
  unfold boxC at e
  have hm : (m : Int) ≠ 0 := by omega
  have hm' : ((m : Int)).natAbs < 1073741824 := by omega
  unfold f_law_take
  rw [WM_runF]
  unfold b_law_take
  by_cases q1 : b = true ∧ (0 : Int) < a
  · obtain ⟨rfl, ha⟩ := q1
    obtain ⟨x, hx, lx⟩ := fmod_lt a (m := m) (by omega)
    simp_arith [e, at4_0, at4_1, ha, hx, ixN4_0]
    exact q x _ (by omega) (St.set hn _ _ _ _)
  · have g : ∀ c : CV, (S.set n c)[n]? = some c := fun c => List.getElem?_set_self hn
    obtain ⟨x, hx, lx⟩ := fmod_lt (((c * 69621 + 1327 * (d + 1) + 17).fmod 2147483629).fdiv 64) (m := m) (by omega)
    have fin : ∀ c d : Int, St n S (S.set n (boxC a b c d)) := fun c d => St.set hn _ _ _ _
    cases b
    · simp_arith [e, at4_0, at4_1, at4_2, at4_3, ixN4_2, ixN4_3, g, hx, List.set_set]
      exact q x _ (by omega) (fin _ _)
    · have ha : ¬ (0 : Int) < a := fun h => q1 ⟨rfl, h⟩
      simp_arith [e, at4_0, at4_1, at4_2, at4_3, ixN4_2, ixN4_3, g, hx, List.set_set, ha]
      exact q x _ (by omega) (fin _ _)
theorem box_sp {S : Store} {g : Int} {k : D → Store → Prop} {kx : Exn → Store → Prop} (q : ∀ a b c, k (.cell S.length) (S ++ [boxC a b c 0])) : WM (f_law_box [.int g] S) k kx := by
  unfold f_law_box
  rw [WM_runF]
  unfold b_law_box
  have e : opBin .pow (D.int 10) (D.int 18) = M.pure (D.int ((10 : Int) ^ 18)) := xbin_pow (by decide)
  simp_arith [e]
  exact q _ _ _
theorem cell_sp {S : Store} {ns : List Int} (i : Nat) {k : D → Store → Prop} {kx : Exn → Store → Prop} (hi : i ≤ 100) (q : ∀ g, k (.int g) S) : WM (f_law_cell [.scr ns, .int (i : Int)] S) k kx := by
  unfold f_law_cell
  rw [WM_runF]
  unfold b_law_cell
  simp_arith
  have ret : ∀ g, WM (retF true S (.int g) S) k kx := fun g => WM_ret2 (fzD_of _ _ _ _ (by simp [fu]) rfl) (q g)
  split
  · rename_i h
    have h : i < ns.length := by
      have := of_decide_eq_true h
      rw [List.length_map] at this
      omega
    have e : (ns)[i]? = some ns[i] := List.getElem?_eq_getElem h
    simp_arith [atI_nat e]
    exact ret _
  · have e1 : Py.cutD (ns.map D.int) none (some (1 : Int)) = (ns.take 1).map D.int := by
      rw [List.map_take]
      exact cut_to (k := 1)
    simp_arith [e1, intsOf_map]
    exact ret _
/-- a permutation -/
theorem mixed_sp {n : Nat} {S : Store} (hb : Bx n S) {d : D} {xs : List D} (hd : IsL S d xs) (hl : xs.length ≤ 500) (hp : ∀ d ∈ xs, Pl 400 d) {k : D → Store → Prop} {kx : Exn → Store → Prop} (q : ∀ ys S', ys.Perm xs → St n S S' → k (.lst ys) S') : WM (f_law_mixed [.cell n, d] S) k kx := by
  unfold f_law_mixed
  rw [WM_runF]
  unfold b_law_mixed
  have hi := fun T => items_of (hd.app T)
  have hj := fun T => len_of (hd.app T)
  simp_arith [hi, hj]
  have hn := hb.lt
  refine for_sp (its := (intsL 0 xs.length).map D.int) (fun ds env s => ∃ e B L F, env = [some (D.cell n), some d, some (D.cell (List.length S)), some (D.cell (List.length S + 1)), e] ∧ s = B ++ [.lst F, .lst L] ∧ St n S B ∧ L.length = ds.length ∧ L.length + F.length = xs.length ∧ (L ++ F).Perm xs) ?_ ?_ _ _ _ ?_
  · rintro d ds _ _ ⟨e, B, L, F, rfl, rfl, st, h1, h2, h3⟩
    rw [WO_bindn]
    rw [← st.len]
    have bx : Bx n (B ++ [.lst F, .lst L]) := st.box.app _
    have nB : n < B.length := st.box.lt
    simp only [List.length_cons] at h1
    simp_arith
    refine take_sp bx (by omega) (by omega) fun x s hx st2 => ?_
    obtain ⟨B2, rfl, st3⟩ := st2.split nB
    rw [← st3.len]
    simp_arith
    refine WM_pop (xs := L) (by rw [at_app]; rfl) (by omega) (by omega) ?_
    simp_arith
    refine ⟨_, B2, L.eraseIdx x, F ++ [L[x]], by rw [st3.len, st.len], rfl, st.trans st3, ?_, ?_, perm_pop (by omega) h3⟩
    · rw [List.length_eraseIdx_of_lt (by omega)]; omega
    · rw [List.length_eraseIdx_of_lt (by omega)]; simp; omega
  · rintro _ _ ⟨e, B, L, F, rfl, rfl, st, h1, h2, h3⟩
    simp_arith
    have hL : L = [] := List.eq_nil_of_length_eq_zero (by simpa using h1)
    subst hL
    have hF : F.Perm xs := by simpa using h3
    refine WM_retA st.len st.kept (fz_own (i := 0) st.len rfl (fun d hd => (hp d (hF.mem_iff.mp hd)).mono (by omega)) (by rw [hF.length_eq]; omega)) (q F B hF st)
  · refine ⟨_, S, xs, [], rfl, rfl, St.refl hb, ?_, ?_, by simp⟩
    · simp [intsL_len]
    · simp
end K24
-- K24B
namespace K24
open Py PySem PySem.Spec PyProof.Rows L2
theorem same_sp : ∀ {m : Nat} {S : Store} {a b : D}, Sa S m a b → f_law_same m [a, b] S = .ok (.bl true) S := by
  intro m
  induction m with
  | zero => intro S a b h; cases h
  | succ m ih =>
  intro S a b h
  have key : ∀ {r : Sem}, (∀ {S : Store} {a b : D}, Sa S m a b → r [a, b] S = .ok (.bl true) S) → WO (runF true 4 (b_law_same r) [a, b] S) (fun d S' => d = .bl true ∧ S' = S) := by
    intro r hr
    unfold WO
    rw [WM_runF]
    unfold b_law_same
    have fin : WM (retF true S (.bl true) S) (fun d S' => d = .bl true ∧ S' = S) fun _ _ => False := WM_ret2 rfl ⟨rfl, rfl⟩
    have items : ∀ {a b : D} {xs ys : List D} (env : Py.Env), env = [some a, some b, none, none] → xs.length = ys.length → ys.length ≤ 1000 → (∀ (i : Nat) (x y : D), xs[i]? = some x → ys[i]? = some y → Sa S m x y) → (∀ i x, xs[i]? = some x → opIx a (.int (i : Nat)) S = .ok x S) → (∀ i y, ys[i]? = some y → opIx b (.int (i : Nat)) S = .ok y S) →
        WM (turnsW ⟨(intsL 0 (ys.length : Int)).map D.int, []⟩ (lcG env (.nm 2) (.not (.call "_law_same" 2 r (.cons (.ix (.var 0) (.var 2)) (.cons (.ix (.var 1) (.var 2)) .nil)))) (.var 2)) ((intsL 0 (ys.length : Int)).map D.int) S) (fun rs S3 => rs = [] ∧ S3 = S) (fun _ _ => False) := by
      intro a b xs ys env he h1 h2 h3 ha hb
      rw [intsL_D]
      refine turns_map (fun i : Nat => D.int (i : Int)) (fun _ => false) (fun i => D.int (i : Int)) _ (fun i hi => ?_) ⟨by simp, rfl⟩
      have hi := List.mem_range.mp hi
      have e1 : ys[i]? = some ys[i] := List.getElem?_eq_getElem hi
      have e2 : xs[i]? = some xs[i] := List.getElem?_eq_getElem (by omega)
      subst he
      unfold WO
      simp_arith [ha _ _ e2, hb _ _ e1, hr (h3 _ _ _ e2 e1)]
    cases h with
    | non => simp_arith; exact fin
    | bl c => cases c <;> (simp_arith; exact fin)
    | int i =>
      simp_arith [Int.sub_self]
      exact fin
    | str x h1 h2 =>
      simp_arith
      rw [intsL_D]
      refine turns_map (fun i : Nat => D.int (i : Int)) (fun _ => false) (fun i => D.int (i : Int)) _ (fun i hi => ?_) ?_
      · have hi := List.mem_range.mp hi
        have hx : x.cps.toList[i]? = some x.cps.toList[i] := List.getElem?_eq_getElem (by rw [Array.length_toList]; exact hi)
        unfold WO
        simp_arith [cut_one hx, xix_str, atI_nat hx, eqD_str _ (one_ok h2 hx) (one_ok h2 hx)]
      · rw [map_range_none]
        simp_arith
        exact fin
    | tup h1 h2 h3 =>
      rename_i xs ys
      have e : decide ((xs.length : Int) = ys.length) = true := decide_eq_true (by omega)
      simp_arith [e]
      refine WO.to (items (a := .tup xs) (b := .tup ys) _ rfl h1 h2 h3 (fun i x e => ?_) (fun i x e => ?_)) fun rs S3 q => ?_
      · rw [xix_tup, atI_nat e] <;> rfl
      · rw [xix_tup, atI_nat e] <;> rfl
      · obtain ⟨rfl, rfl⟩ := q
        simp_arith
        exact fin
    | lst h1 h2 h3 h4 h5 =>
      rename_i xs ys
      have e : decide ((xs.length : Int) = ys.length) = true := decide_eq_true (by omega)
      have i1 : isD b .non = some false := by rcases h2 with rfl | ⟨n, rfl, _⟩ <;> rfl
      simp_arith [ty_of h1, ty_of h2, len_of h1, len_of h2, e, i1]
      refine WO.to (items (a := a) (b := b) _ rfl h3 h4 h5 (fun i x e => ix_of h1 e) (fun i x e => ix_of h2 e)) fun rs S3 q => ?_
      obtain ⟨rfl, rfl⟩ := q
      simp_arith
      exact fin
    | dic h h1 h2 h3 =>
      rename_i n kvs
      have e : ∀ n : Nat, isD (.cell n) .non = some false := fun _ => rfl
      have e2 : (decide ((kvs.length : Int) = (kvs.length : Int))) = true := decide_eq_true rfl
      simp_arith [h, e, e2]
      refine WM_lcd rfl h ?_
      have hn : n < S.length := (List.getElem?_eq_some_iff.mp h).1
      have h' : (S.set n (.dic true kvs))[n]? = some (.dic true kvs) := List.getElem?_set_self hn
      refine turns_map (its := (keysS kvs).items) (S := S.set n (.dic true kvs)) (fun p : Key × D => keyD p.1) (fun _ => false) (fun p => keyD p.1) kvs (fun p hp => ?_) ⟨fits_le' (by rw [List.length_map]; exact Nat.le_trans (List.length_filter_le _ _) (by omega)), ?_⟩
      · have v := h2 p hp
        have rr := hr (h3 p hp (S.set n (.dic true kvs)))
        unfold WO
        simp_arith [xin_key h', xix_key h' v, rr, v, Option.isSome_some]
      · rw [List.set_set, set_same h]
        have e0 : List.map (fun p : Key × D => keyD p.1) (List.filter (fun _ => false) kvs) = [] := by rw [List.filter_eq_nil_iff.mpr (fun _ _ h => by cases h), List.map_nil]
        rw [e0]
        simp_arith
        exact fin
  obtain ⟨d, S', e, rfl, rfl⟩ := WO.ex (key fun h => ih h)
  exact e
end K24
-- K24K
namespace K24
open Py PySem PySem.Spec PyProof.Rows L2
theorem is_name_ok {m : Nat} {d : D} (h : okV m d = true) (S : Store) : f_is_name [d] S = .ok (.bl (nmD d)) S := by
  refine eq_of_WO ?_
  unfold f_is_name WO
  rw [WM_runF]
  unfold b_is_name
  cases d with
  | str x =>
    obtain ⟨m, rfl⟩ : ∃ k, m = k + 1 := ⟨m - 1, by cases m with | zero => cases h | succ k => rfl⟩
    obtain ⟨h1, h2⟩ := okV.str h
    have i1 : decide ((1 : Int) ≤ (x.length : Int)) = decide (1 ≤ x.length) := decide_eq_decide.mpr (by omega)
    have i2 : decide ((x.length : Int) ≤ 12) = decide (x.length ≤ 12) := decide_eq_decide.mpr (by omega)
    have el : x.cps.toList.length = x.length := Array.length_toList
    simp_arith [i1, i2]
    cases q1 : decide (1 ≤ x.length)
    · simp_arith
      exact ret_bl (by simp [nmD, nmB, q1])
    · cases q2 : decide (x.length ≤ 12)
      · simp_arith [i2]
        exact ret_bl (by simp [nmD, nmB, q1, q2])
      · simp_arith [i2]
        refine turns_map (fun c : Nat => D.str ⟨#[c]⟩) (fun _ => true) (fun c => D.bl (decide (c ∈ abc.cps.toList))) x.cps.toList (fun c hc => ?_) ?_
        · unfold WO
          simp_arith [isin_one, abc]
          exact congrArg (fun b => some (D.bl b)) (decide_eq_decide.mpr Iff.rfl)
        · have hl : (List.map (fun c => D.bl (decide (c ∈ abc.cps.toList))) (List.filter (fun _ => true) x.cps.toList)).length ≤ 100000 := by
            rw [List.length_map]; exact Nat.le_trans (List.length_filter_le _ _) (by omega)
          simp_arith [fits_le' hl]
          exact ret_bl (by simp [nmD, nmB, q1, q2, List.all_map, Function.comp_def])
  | cell n => cases m <;> cases h
  | ins a b c => cases m <;> cases h
  | _ =>
    simp_arith
    exact ret_bl rfl
theorem law_is_name_ok {m : Nat} {d : D} (h : okV m d = true) (S : Store) : f_law_is_name [d] S = .ok (.bl (nmD d)) S := by
  refine eq_of_WO ?_
  unfold f_law_is_name WO
  rw [WM_runF]
  unfold b_law_is_name
  cases d with
  | str x =>
    obtain ⟨m, rfl⟩ : ∃ k, m = k + 1 := ⟨m - 1, by cases m with | zero => cases h | succ k => rfl⟩
    obtain ⟨h1, h2⟩ := okV.str h
    have i1 : decide ((1 : Int) ≤ (x.length : Int)) = decide (1 ≤ x.length) := decide_eq_decide.mpr (by omega)
    have i2 : decide ((x.length : Int) ≤ 12) = decide (x.length ≤ 12) := decide_eq_decide.mpr (by omega)
    have el : x.cps.toList.length = x.length := Array.length_toList
    simp_arith [i1, i2]
    cases q1 : decide (1 ≤ x.length)
    · simp_arith
      exact ret_bl (by simp [nmD, nmB, q1])
    · cases q2 : decide (x.length ≤ 12)
      · simp_arith [i2]
        exact ret_bl (by simp [nmD, nmB, q1, q2])
      · simp_arith [i2]
        refine turns_map (fun c : Nat => D.str ⟨#[c]⟩) (fun c => !decide (c ∈ abc.cps.toList)) (fun c => D.str ⟨#[c]⟩) x.cps.toList (fun c hc => ?_) ?_
        · unfold WO
          simp_arith [isin_one]
          rw [show decide (c ∈ (Str.ofString "abcdefghijklmnopqrstuvwxyz").cps.toList) = decide (c ∈ abc.cps.toList) from decide_eq_decide.mpr Iff.rfl]
          cases decide (c ∈ abc.cps.toList) <;> simp_arith
        · have hl : (List.map (fun c => D.str ⟨#[c]⟩) (List.filter (fun c => !decide (c ∈ abc.cps.toList)) x.cps.toList)).length ≤ 100000 := by
            rw [List.length_map]; exact Nat.le_trans (List.length_filter_le _ _) (by omega)
          have q2' := of_decide_eq_true q2
          have e := eqD_filt S (fun c => !decide (c ∈ abc.cps.toList)) x.cps.toList (by omega) fun c hc => by
            obtain ⟨i, hi⟩ := List.mem_iff_getElem?.mp hc
            exact one_ok h1 hi
          simp_arith [fits_le' hl, e]
          refine ret_bl ?_
          simp only [nmD, nmB, q1, q2, Bool.true_and]
          rw [Bool.eq_iff_iff, decide_eq_true_iff, List.filter_eq_nil_iff, List.all_eq_true]
          simp
  | cell n => cases m <;> cases h
  | ins a b c => cases m <;> cases h
  | _ =>
    simp_arith
    exact ret_bl rfl
theorem is_whole_ok {m : Nat} {d : D} (h : okV m d = true) (S : Store) : f_is_whole [d] S = .ok (.bl (match d with | .int _ => true | _ => false)) S := by
  refine eq_of_WO ?_
  unfold f_is_whole WO
  rw [WM_runF]
  unfold b_is_whole
  cases d with
  | cell n => cases m <;> cases h
  | ins a b c => cases m <;> cases h
  | _ =>
    simp_arith
    exact ret_bl rfl
theorem is_glued_ok {m : Nat} {d : D} (h : okV m d = true) (S : Store) : f_is_glued [d] S = .ok (.bl (match d with | .tup _ => true | _ => false)) S := by
  refine eq_of_WO ?_
  unfold f_is_glued WO
  rw [WM_runF]
  unfold b_is_glued
  cases d with
  | cell n => cases m <;> cases h
  | ins a b c => cases m <;> cases h
  | _ =>
    simp_arith
    exact ret_bl rfl
theorem okV.mono1 {m : Nat} {d : D} (h : okV m d = true) : ∃ k, m = k + 1 := ⟨m - 1, by cases m with | zero => cases h | succ k => rfl⟩
theorem vOf_int (i : Int) : vOf (.int i) = some (.int i) := rfl
theorem vs_ways : vsOf [.int 1, .int (-1)] = some [.int 1, .int (-1)] := rfl
theorem in_ways (i : Int) : inV (.int i) [.int 1, .int (-1)] = (decide (i = 1) || decide (i = -1)) := by
  have e : inV (.int i) [.int 1, .int (-1)] = (decide ((1 : Int) = i) || (decide ((-1 : Int) = i) || false)) := rfl
  rw [e, Bool.or_false, decide_eq_decide.mpr (eq_comm (a := (1 : Int)) (b := i)), decide_eq_decide.mpr (eq_comm (a := (-1 : Int)) (b := i))]
theorem is_side_ok {m : Nat} {d : D} (h : okV m d = true) (S : Store) : f_is_side [d] S = .ok (.bl (sideB d)) S := by
  refine eq_of_WO ?_
  unfold f_is_side WO
  rw [WM_runF]
  unfold b_is_side
  cases d with
  | cell n => cases m <;> cases h
  | ins a b c => cases m <;> cases h
  | tup xs =>
    obtain ⟨m, rfl⟩ := okV.mono1 h
    obtain ⟨h1, h2⟩ := okV.tup h
    have i1 : decide ((xs.length : Int) = 2) = decide (xs.length = 2) := decide_eq_decide.mpr (by omega)
    simp_arith [i1]
    by_cases q : xs.length = 2
    · match xs, q with
      | [a, b], _ =>
        have a0 : atI [a, b] 0 = some a := rfl
        have a1 : atI [a, b] 1 = some b := rfl
        have ha := h2 a (by simp)
        have hb := h2 b (by simp)
        simp_arith [a0, a1, is_name_ok ha S, is_whole_ok hb S]
        cases q1 : nmD a
        · simp_arith
          refine ret_bl ?_
          cases a <;> first | rfl | (cases b <;> first | rfl | (show false = (nmB _ && _); rw [show nmB _ = false from q1]; rfl))
        · cases a with
          | str x =>
            have q1 : nmB x = true := q1
            cases b with
            | int i =>
              simp_arith [vOf_int, vs_ways, in_ways]
              refine ret_bl ?_
              show _ = (nmB x && _)
              rw [q1, Bool.true_and]
            | _ =>
              simp_arith
              exact ret_bl rfl
          | _ => cases q1
    · simp_arith [show decide (xs.length = 2) = false from decide_eq_false q]
      refine ret_bl ?_
      match xs, q with
      | [], _ => rfl
      | [.str x], _ => rfl
      | [_], _ => unfold sideB; split <;> simp_all
      | _ :: _ :: _ :: _, _ => unfold sideB; split <;> simp_all
      | [_, _], q => exact absurd rfl q
  | _ =>
    simp_arith [is_name_ok h S]
    exact ret_bl rfl
end K24
-- K24L
namespace K24
open Py PySem PySem.Spec PyProof.Rows L2
/-- the inner loop's body -/
def isGl : D → Bool
  | .tup _ => true
  | _ => false
theorem spots_sp {S : Store} {ps : List (List D)} {m : Nat} (hp : ∀ p ∈ ps, ∀ d ∈ p, okV m d = true ∧ sideB d = true) (hl : (gluA 0 ps).length ≤ 900) {k : D → Store → Prop} {kx : Exn → Store → Prop} (q : ∀ c S', Sp S (gluA 0 ps) c S' → k (.cell S.length) S') : WM (f_spots_of [.tup (ps.map .tup)] S) k kx := by
  unfold f_spots_of
  rw [WM_runF]
  unfold b_spots_of
  simp_arith
  refine for_sp (fun ds env S' => ∃ at_ rest done c e2 e3 e4 e5, ds = enumL at_ (rest.map .tup) ∧ (∀ p ∈ rest, p ∈ ps) ∧ gluA 0 ps = done ++ gluA at_ rest ∧ env = [some (.tup (ps.map .tup)), some (.cell S.length), e2, e3, e4, e5] ∧ Sp S done c S') ?_ ?_ _ _ _ ?_
  · rintro d ds _ S1 ⟨at_, rest, done, c, e2, e3, e4, e5, hds, hr, hg, rfl, sp⟩
    cases rest with
    | nil => cases hds
    | cons p rest =>
    obtain ⟨rfl, rfl⟩ : d = .tup [.int at_, .tup p] ∧ ds = enumL (at_ + 1) (rest.map .tup) := by
      simpa [enumL] using hds
    rw [WO_bindt (by rfl)]
    simp_arith
    refine for_sp (fun ds env S' => ∃ pl rst done c e4 e5, ds = enumL pl rst ∧ (∀ d ∈ rst, d ∈ p) ∧ gluA 0 ps = done ++ (gluP at_ pl rst ++ gluA (at_ + 1) rest) ∧ env = [some (.tup (ps.map .tup)), some (.cell S.length), some (.int at_), some (.tup p), e4, e5] ∧ Sp S done c S') ?_ ?_ _ _ _ ?_
    · rintro d ds _ S2 ⟨pl, rst, done, c, e4, e5, hds, hr2, hg, rfl, sp⟩
      cases rst with
      | nil => cases hds
      | cons s rst =>
      obtain ⟨rfl, rfl⟩ : d = .tup [.int pl, s] ∧ ds = enumL (pl + 1) rst := by
        simpa [enumL] using hds
      obtain ⟨ok, sb⟩ := hp p (hr p List.mem_cons_self) s (hr2 s List.mem_cons_self)
      rw [WO_bindt (by rfl)]
      simp_arith [is_glued_ok ok]
      cases s with
      | str x =>
        simp_arith
        exact ⟨pl + 1, rst, done, c, _, _, rfl, fun d hd => hr2 d (List.mem_cons_of_mem _ hd), hg, rfl, sp⟩
      | tup xs =>
        match xs, sb, ok, hg with
        | [.str x, .int i], sb, ok, hg =>
          have hg : gluA 0 ps = (done ++ [(x, .tup [.int at_, .int pl])]) ++ (gluP at_ (pl + 1) rst ++ gluA (at_ + 1) rest) := by
            rw [hg, List.append_assoc]
            rfl
          have a0 : atI [D.str x, D.int i] 0 = some (.str x) := rfl
          have hlt := sp.lt
          have ed : (S2 ++ [CV.lst []])[S.length]? = _ := (List.getElem?_append_left hlt).trans sp.dict
          have hd : done.length ≤ 900 := by
            rw [hg, List.length_append, List.length_append] at hl
            omega
          have hf : (firsts (done.map (·.1))).length ≤ 900 := Nat.le_trans (len_firsts _) (by rw [List.length_map]; exact hd)
          by_cases hx : x ∈ done.map (·.1)
          · obtain ⟨g1, g2⟩ := sp.it x hx
            have hx' : x ∈ firsts (done.map (·.1)) := mem_firsts.mpr hx
            have g3 : (S2 ++ [CV.lst []])[c x]? = _ := (List.getElem?_append_left (List.getElem?_eq_some_iff.mp g2).1).trans g2
            have hq : (List.map (fun x => x.snd) (List.filter (fun p => decide (p.fst = x)) done)).length ≤ 900 := by
              rw [List.length_map]; exact Nat.le_trans (List.length_filter_le _ _) hd
            simp_arith [sp.dict, a0, ed, valD_map, hx', g3]
            exact ⟨pl + 1, rst, _, c, _, _, rfl, fun d hd => hr2 d (List.mem_cons_of_mem _ hd), hg, rfl, sp.seen hx⟩
          · have hx' : x ∉ firsts (done.map (·.1)) := fun q => hx (mem_firsts.mp q)
            have e2 : ∀ C : CV, (List.set (S2 ++ [CV.lst []]) S.length C)[S2.length]? = some (.lst []) := fun C => by
              rw [List.getElem?_set_ne (by omega), at_app0]; rfl
            simp_arith [sp.dict, a0, ed, valD_map, hx', e2]
            exact ⟨pl + 1, rst, _, _, _, _, rfl, fun d hd => hr2 d (List.mem_cons_of_mem _ hd), hg, rfl, sp.newN hx⟩
      | _ => cases sb
    · rintro _ S2 ⟨pl, rst, done, c, e4, e5, hds, hr2, hg, rfl, sp⟩
      cases rst with
      | cons s rst => cases hds
      | nil =>
        simp_arith
        exact ⟨at_ + 1, rest, done, c, _, _, _, _, rfl, fun d hd => hr d (List.mem_cons_of_mem _ hd), hg, rfl, sp⟩
    · exact ⟨0, p, done, c, _, _, rfl, fun _ h => h, hg, rfl, sp⟩
  · rintro _ S1 ⟨at_, rest, done, c, e2, e3, e4, e5, hds, hr, hg, rfl, sp⟩
    cases rest with
    | cons p rest => cases hds
    | nil =>
      simp_arith
      have : gluA 0 ps = done := by rw [hg]; exact List.append_nil _
      exact q c S1 (this ▸ sp)
  · exact ⟨0, ps, [], fun _ => 0, _, _, _, _, rfl, fun _ h => h, rfl, rfl, Sp.init S _⟩
end K24
-- K24M
namespace K24
open Py PySem PySem.Spec PyProof.Rows L2
theorem are_polygons_tup {m : Nat} {ps : List D} (h : ∀ p ∈ ps, okV (m + 1) p = true) (hl : ps.length ≤ 60) (S : Store) : f_are_polygons [.tup ps] S = .ok (.bl (polysB (.tup ps))) S := by
  refine eq_of_WO ?_
  unfold f_are_polygons WO
  rw [WM_runF]
  unfold b_are_polygons
  have i1 : decide ((12 : Int) < (ps.length : Int)) = !decide (ps.length ≤ 12) := by
    rw [Bool.eq_iff_iff]; simp; omega
  simp_arith [i1]
  cases q1 : decide (ps.length ≤ 12)
  · simp_arith
    exact ret_bl (by simp [polysB, q1])
  simp_arith
  refine for_sp (fun ds env S' => S' = S ∧ (∃ e1 e2, env = [some (.tup ps), e1, e2, none, none]) ∧ ∃ pre, ps = pre ++ ds ∧ pre.all polyB = true) ?_ ?_ _ _ _ ?_
  · rintro p ds _ S ⟨rfl, ⟨e1, e2, rfl⟩, pre, hps, hpre⟩
    rw [WO_bindn]
    have hpm : p ∈ ps := by rw [hps]; simp
    have hp := h p hpm
    have bad : polyB p = false → polysB (.tup ps) = false := fun q => by
      have : ps.all polyB = false := by rw [hps, List.all_append, List.all_cons, q]; simp
      simp [polysB, this]
    cases p with
    | cell n => cases hp
    | ins a b c => cases hp
    | tup xs =>
      obtain ⟨g1, g2⟩ := okV.tup hp
      have i2 : decide ((24 : Int) < (xs.length : Int)) = !decide (xs.length ≤ 24) := by
        rw [Bool.eq_iff_iff]; simp; omega
      simp_arith [i2]
      cases q2 : decide (xs.length ≤ 24)
      · simp_arith [i2]
        exact ret_bl (bad (by simp [polyB, q2])).symm
      · simp_arith [i2]
        refine turns_DT (fun d => D.bl (sideB d)) (fun d hd => ?_) ?_
        · unfold WO
          simp_arith [is_side_ok (g2 d hd)]
        · simp_arith [List.all_map]
          cases q3 : xs.all (id ∘ sideB)
          · simp_arith
            exact ret_bl (bad (by simp only [polyB, q2, Bool.true_and]; exact q3)).symm
          · simp_arith
            refine ⟨⟨_, _, rfl⟩, pre ++ [.tup xs], by rw [hps, List.append_assoc]; rfl, ?_⟩
            rw [List.all_append, hpre, List.all_cons]
            simp only [polyB, q2, Bool.true_and, List.all_nil, Bool.and_true]
            exact q3
    | _ =>
      simp_arith
      exact ret_bl (bad rfl).symm
  · rintro _ S ⟨rfl, ⟨e1, e2, rfl⟩, pre, hps, hpre⟩
    have hall : ps.all polyB = true := by rw [hps, List.append_nil]; exact hpre
    have hpoly : ∀ p ∈ ps, polyB p = true := List.all_eq_true.mp hall
    have e0 : ps = (ps.map itemsT).map .tup := by
      rw [List.map_map]
      have : ∀ p ∈ ps, (D.tup ∘ itemsT) p = p := fun p hp => (polyB_tup (hpoly p hp)).1.symm
      rw [List.map_congr_left this, List.map_id']
    have hside : ∀ p ∈ ps.map itemsT, ∀ d ∈ p, okV m d = true ∧ sideB d = true := fun p hp d hd => by
      obtain ⟨q, hq, rfl⟩ := List.mem_map.mp hp
      obtain ⟨t1, t2, t3⟩ := polyB_tup (hpoly q hq)
      have t4 := h q hq
      rw [t1] at t4
      exact ⟨(okV.tup t4).2 d hd, t3 d hd⟩
    have hnl : (namesA (ps.map itemsT)).length ≤ 24 * 12 := by
      have := namesA_len (n := 24) (ps := ps.map itemsT) fun p hp => by
        obtain ⟨q, hq, rfl⟩ := List.mem_map.mp hp
        exact (polyB_tup (hpoly q hq)).2.1
      rw [List.length_map] at this
      have := of_decide_eq_true q1
      omega
    have hgl : (gluA 0 (ps.map itemsT)).length ≤ 900 := by
      have := congrArg List.length (gluA_names (ps.map itemsT) 0)
      rw [List.length_map] at this
      omega
    have sp : ∀ {k : D → Store → Prop} {kx : Exn → Store → Prop}, (∀ c S', Py.Sp S (gluA 0 (ps.map itemsT)) c S' → k (.cell S.length) S') → WM (f_spots_of [.tup ps] S) k kx := fun {k kx} q => by
      have := spots_sp (S := S) (ps := ps.map itemsT) (kx := kx) hside hgl q
      rwa [← e0] at this
    simp_arith
    refine sp fun c S' hs => ?_
    have hn := gluA_names (ps.map itemsT) 0
    have hd := hs.dict
    have hlt := hs.lt
    have hit := hs.it
    rw [hn] at hd hit
    have hfl := len_firsts (namesA (ps.map itemsT))
    simp_arith
    refine turns_DT (fun p => D.int ((itemsT p).length : Nat)) (fun p hp => ?_) ?_
    · rw [(polyB_tup (hpoly p hp)).1]
      unfold WO
      simp_arith [itemsT]
    · have es : (ps.map fun p => D.int ((itemsT p).length : Nat)) = (ps.map fun p => ((itemsT p).length : Int)).map D.int := by rw [List.map_map]; rfl
      have sum : (ps.map fun p => ((itemsT p).length : Int)).sum = (((ps.map fun p => (itemsT p).length).sum : Nat) : Int) := sum_cast _ _
      have i3 : decide ((40 : Int) < (((ps.map fun p => (itemsT p).length).sum : Nat) : Int)) = !decide ((ps.map fun p => (itemsT p).length).sum ≤ 40) := by
        rw [Bool.eq_iff_iff]; simp; omega
      have i4 : decide ((8 : Int) < (((firsts (namesA (ps.map itemsT))).length : Nat) : Int)) = !decide ((firsts (namesA (ps.map itemsT))).length ≤ 8) := by
        rw [Bool.eq_iff_iff]; simp; omega
      simp_arith [es, intsOf_map, sum, i3]
      cases q3 : decide ((ps.map fun p => (itemsT p).length).sum ≤ 40)
      · simp_arith
        exact ret_blT (by omega) hs.old (by simp only [polysB, q1, hall, q3]; rfl)
      simp_arith [hd, List.length_map, i4]
      cases q4 : decide ((firsts (namesA (ps.map itemsT))).length ≤ 8)
      · simp_arith
        exact ret_blT (by omega) hs.old (by simp only [polysB, q1, hall, q3, q4]; rfl)
      simp_arith [hd, List.map_map]
      have hnode : ∀ x ∈ firsts (namesA (ps.map itemsT)), ∀ C : CV, (S'.set S.length C)[c x]? = some (.lst (((gluA 0 (ps.map itemsT)).filter fun p => p.1 = x).map (·.2))) := fun x hx C => by
        obtain ⟨g1, g2⟩ := hit x (mem_firsts.mp hx)
        rw [List.getElem?_set_ne (by omega)]
        exact g2
      refine turns_mT (fun x : Str => D.cell (c x)) (fun x => D.bl (decide ((namesA (ps.map itemsT)).count x = 2))) (firsts (namesA (ps.map itemsT))) (fun x hx => ?_) ?_
      · unfold WO
        simp_arith [hnode x hx, filt_count, hn]
        exact congrArg (fun b => some (D.bl b)) (decide_eq_decide.mpr (by omega))
      · simp_arith
        refine ret_blT (by rw [List.length_set]; omega) (fun j hj => ?_) ?_
        · rw [List.getElem?_set_ne (by omega)]
          exact hs.old j hj
        · simp only [polysB, q1, hall, q3, q4, Bool.true_and, List.all_map]
          rfl
  · exact ⟨rfl, ⟨_, _, rfl⟩, [], rfl, rfl⟩
end K24
-- K24N
namespace K24
open Py PySem PySem.Spec PyProof.Rows L2
theorem law_polygons_tup {m : Nat} {ps : List D} (h : ∀ p ∈ ps, okV (m + 2) p = true) (hl : ps.length ≤ 60) (S : Store) : f_law_are_polygons [.tup ps] S = .ok (.bl (polysB (.tup ps))) S := by
  refine eq_of_WO ?_
  unfold f_law_are_polygons WO
  rw [WM_runF]
  unfold b_law_are_polygons
  have i1 : decide ((12 : Int) < (ps.length : Int)) = !decide (ps.length ≤ 12) := by
    rw [Bool.eq_iff_iff]; simp; omega
  simp_arith [i1]
  cases q1 : decide (ps.length ≤ 12)
  · simp_arith
    exact ret_bl (by simp [polysB, q1])
  simp_arith
  refine for_sp (fun ds env S' => ∃ pre e3 e4, ps = pre ++ ds ∧ pre.all polyB = true ∧ env = [some (.tup ps), some (.cell S.length), some (.int ((pre.map fun p => (itemsT p).length).sum : Nat)), e3, e4, none] ∧ S' = S ++ [.dic false (dc (namesA (pre.map itemsT)))]) ?_ ?_ _ _ _ ?_
  · rintro p ds _ _ ⟨pre, e3, e4, hps, hpre, rfl, rfl⟩
    rw [WO_bindn]
    have hpm : p ∈ ps := by rw [hps]; simp
    have hp := h p hpm
    have fin : ∀ {S' : Store}, (∀ j, j < S.length → S'[j]? = S[j]?) → S.length ≤ S'.length → polyB p = false → WM (retF true S (.bl false) S') (fun d S' => d = .bl (polysB (.tup ps)) ∧ S' = S) fun _ _ => False := fun h1 h2 q => ret_blT h2 h1 (by
      have : ps.all polyB = false := by rw [hps, List.all_append, List.all_cons, q]; simp
      simp [polysB, this])
    have ap : ∀ (T : Store), ∀ j, j < S.length → (S ++ T)[j]? = S[j]? := fun T j hj => List.getElem?_append_left hj
    have hnl : (namesA (pre.map itemsT)).length ≤ 24 * 12 := by
      have := namesA_len (n := 24) (ps := pre.map itemsT) fun p hp => by
        obtain ⟨q, hq, rfl⟩ := List.mem_map.mp hp
        exact (polyB_tup (List.all_eq_true.mp hpre q hq)).2.1
      rw [List.length_map] at this
      have h1 := of_decide_eq_true q1
      have h2 : pre.length ≤ ps.length := by rw [hps]; simp
      omega
    cases p with
    | cell n => cases hp
    | ins a b c => cases hp
    | tup xs =>
      obtain ⟨g1, g2⟩ := okV.tup hp
      have i2 : decide ((24 : Int) < (xs.length : Int)) = !decide (xs.length ≤ 24) := by
        rw [Bool.eq_iff_iff]; simp; omega
      simp_arith [i2]
      cases q2 : decide (xs.length ≤ 24)
      · simp_arith
        exact fin (ap _) (by simp) (by simp [polyB, q2])
      have q2' := of_decide_eq_true q2
      simp_arith
      refine for_sp (fun es env S' => ∃ done e4, xs = done ++ es ∧ done.all sideB = true ∧ env = [some (.tup ps), some (.cell S.length), some (.int (((pre.map fun p => (itemsT p).length).sum + done.length : Nat))), some (.tup xs), e4, none] ∧ S' = S ++ [.dic false (dc (namesA (pre.map itemsT) ++ namesP done))]) ?_ ?_ _ _ _ ?_
      · rintro s es _ _ ⟨done, e4, hxs, hdone, rfl, rfl⟩
        rw [WO_bindn]
        have hsm : s ∈ xs := by rw [hxs]; simp
        have ok := g2 s hsm
        have badS : sideB s = false → polyB (.tup xs) = false := fun q => by
          have : xs.all sideB = false := by rw [hxs, List.all_append, List.all_cons, q]; simp
          simp [polyB, this]
        have go : ∀ {e : Option D} {ns : List Str}, sideB s = true → namesP [s] = ns → ∃ done' e4', xs = done' ++ es ∧ done'.all sideB = true ∧ [some (D.tup ps), some (.cell S.length), some (.int ((((pre.map fun p => (itemsT p).length).sum + done.length : Nat) : Int) + 1)), some (.tup xs), e, none] = [some (D.tup ps), some (.cell S.length), some (.int (((pre.map fun p => (itemsT p).length).sum + done'.length : Nat))), some (.tup xs), e4', none] ∧ S ++ [CV.dic false (dc (namesA (pre.map itemsT) ++ namesP done ++ ns))] = S ++ [CV.dic false (dc (namesA (pre.map itemsT) ++ namesP done'))] := fun {e ns} q1 q2 => by
          refine ⟨done ++ [s], e, by rw [hxs, List.append_assoc]; rfl, by rw [List.all_append, hdone, List.all_cons, q1]; rfl, ?_, ?_⟩
          · rw [List.length_append]
            congr 4
          · rw [namesP_app, q2, List.append_assoc]
        simp_arith
        cases s with
        | cell n => cases ok
        | ins a b c => cases ok
        | str x =>
          simp_arith [law_is_name_ok ok]
          cases q3 : nmD (.str x)
          · simp_arith
            exact fin (ap _) (by simp) (badS q3)
          · simp_arith
            have := go (e := some (.str x)) (ns := []) q3 rfl
            rwa [List.append_nil] at this
        | tup zs =>
          obtain ⟨z1, z2⟩ := okV.tup ok
          have i3 : decide ((zs.length : Int) = 2) = decide (zs.length = 2) := decide_eq_decide.mpr (by omega)
          have dn : ∀ {ns : List Str}, nmD (.tup zs) = false := fun {_} => rfl
          simp_arith [i3]
          by_cases q4 : zs.length = 2
          · match zs, q4 with
            | [a, b], _ =>
              have a0 : atI [a, b] 0 = some a := rfl
              have a1 : atI [a, b] 1 = some b := rfl
              have ha := z2 a (by simp)
              have hb := z2 b (by simp)
              simp_arith [a0, a1, law_is_name_ok ha]
              cases q5 : nmD a
              · simp_arith [law_is_name_ok ok]
                refine fin (ap _) (by simp) (badS ?_)
                cases a <;> first | rfl | (cases b <;> first | rfl | (show (nmB _ && _) = false; rw [show nmB _ = false from q5]; rfl))
              · cases a with
                | str x =>
                  have q5 : nmB x = true := q5
                  cases b with
                  | cell n => cases m <;> cases hb
                  | ins a b c => cases m <;> cases hb
                  | int i =>
                    simp_arith [a0, a1, vOf_int, vs_ways, in_ways]
                    cases q6 : (decide (i = 1) || decide (i = -1))
                    · simp_arith
                      refine fin (ap _) (by simp) (badS ?_)
                      show (nmB x && (decide (i = 1) || decide (i = -1))) = false
                      rw [q6, Bool.and_false]
                    · have sb : sideB (.tup [.str x, .int i]) = true := by
                        show (nmB x && (decide (i = 1) || decide (i = -1))) = true
                        rw [q5, q6]; rfl
                      have ln : (dc (namesA (pre.map itemsT) ++ namesP done)).length ≤ 900 := by
                        rw [dc_len]
                        refine Nat.le_trans (len_firsts _) ?_
                        rw [List.length_append]
                        have := namesP_len done
                        have : done.length ≤ xs.length := by rw [hxs]; simp
                        omega
                      simp_arith [a0, a1, dc_get, dc_put, List.set_cons_zero]
                      rw [← List.append_assoc]
                      exact go sb rfl
                  | _ =>
                    simp_arith [a0, a1]
                    exact fin (ap _) (by simp) (badS rfl)
                | _ => cases q5
          · simp_arith [show decide (zs.length = 2) = false from decide_eq_false q4, law_is_name_ok ok]
            refine fin (ap _) (by simp) (badS ?_)
            match zs, q4 with
            | [], _ => rfl
            | [_], _ => unfold sideB; split <;> simp_all
            | _ :: _ :: _ :: _, _ => unfold sideB; split <;> simp_all
            | [_, _], q => exact absurd rfl q
        | _ =>
          simp_arith [law_is_name_ok ok]
          exact fin (ap _) (by simp) (badS rfl)
      · rintro _ _ ⟨done, e4, hxs, hdone, rfl, rfl⟩
        have hxs : xs = done := by rw [hxs, List.append_nil]
        subst hxs
        simp_arith
        refine ⟨pre ++ [.tup xs], some (.tup xs), e4, by rw [hps, List.append_assoc]; rfl, ?_, ?_, ?_⟩
        · rw [List.all_append, hpre, List.all_cons]
          simp only [polyB, q2, Bool.true_and, List.all_nil, Bool.and_true]
          exact hdone
        · rw [List.map_append, List.sum_append]
          rfl
        · rw [List.map_append, namesA_app, List.map_cons, List.map_nil, namesA_one]
          rfl
      · refine ⟨[], e4, rfl, rfl, ?_, ?_⟩
        · rfl
        · rw [show namesP [] = [] from rfl, List.append_nil]
    | _ =>
      simp_arith
      exact fin (ap _) (by simp) rfl
  · rintro _ _ ⟨pre, e3, e4, hps, hpre, rfl, rfl⟩
    have hps : ps = pre := by rw [hps, List.append_nil]
    subst hps
    have hnl : (namesA (ps.map itemsT)).length ≤ 24 * 12 := by
      have := namesA_len (n := 24) (ps := ps.map itemsT) fun p hp => by
        obtain ⟨q, hq, rfl⟩ := List.mem_map.mp hp
        exact (polyB_tup (List.all_eq_true.mp hpre q hq)).2.1
      rw [List.length_map] at this
      have h1 := of_decide_eq_true q1
      omega
    have i3 : decide ((((ps.map fun p => (itemsT p).length).sum : Nat) : Int) ≤ 40) = decide ((ps.map fun p => (itemsT p).length).sum ≤ 40) := decide_eq_decide.mpr (by omega)
    have i4 : decide ((((firsts (namesA (ps.map itemsT))).length : Nat) : Int) ≤ 8) = decide ((firsts (namesA (ps.map itemsT))).length ≤ 8) := decide_eq_decide.mpr (by omega)
    have ap : ∀ (T : Store), ∀ j, j < S.length → (S ++ T)[j]? = S[j]? := fun T j hj => List.getElem?_append_left hj
    simp_arith [i3]
    cases q3 : decide ((ps.map fun p => (itemsT p).length).sum ≤ 40)
    · simp_arith
      exact ret_blT (by simp) (ap _) (by simp only [polysB, q1, hpre, q3]; rfl)
    simp_arith [dc_len, i4]
    cases q4 : decide ((firsts (namesA (ps.map itemsT))).length ≤ 8)
    · simp_arith
      exact ret_blT (by simp) (ap _) (by simp only [polysB, q1, hpre, q3, q4]; rfl)
    simp_arith
    generalize hns : namesA (ps.map itemsT) = ns at *
    have hnm : ∀ x ∈ ns, nmB x = true := fun x hx => namesA_nm (ps := ps.map itemsT) (fun p hp d hd => by
      obtain ⟨q, hq, rfl⟩ := List.mem_map.mp hp
      exact (polyB_tup (List.all_eq_true.mp hpre q hq)).2.2 d hd) x (by rw [hns]; exact hx)
    refine WM_lcd rfl (by rw [at_app0] <;> rfl) ?_
    rw [dc_keys]
    have e1 : (S ++ [CV.dic true (dc ns)])[S.length]? = some (.dic true (dc ns)) := by rw [at_app0]; rfl
    have e2 : (S ++ [CV.dic false (dc ns)]).set S.length (.dic true (dc ns)) = S ++ [CV.dic true (dc ns)] := by rw [set_app0]; rfl
    have hfl := len_firsts ns
    rw [e2]
    refine turns_map (fun x : Str => D.str x) (fun x => !decide (ns.count x = 2)) (fun x => D.str x) (firsts ns) (fun x hx => ?_) ⟨fits_le' ?_, ?_⟩
    · have i5 : decide (((ns.count x : Nat) : Int) = 2) = decide (ns.count x = 2) := decide_eq_decide.mpr (by omega)
      unfold WO
      simp_arith [dc_ix e1 hx, i5]
      cases decide (ns.count x = 2) <;> simp_arith
    · rw [List.length_map]
      have := List.length_filter_le (fun x => !decide (ns.count x = 2)) (firsts ns)
      omega
    · have e3 := eqD_strs (S ++ [CV.dic false (dc ns)]) ((firsts ns).filter fun x => !decide (ns.count x = 2)) (by
        have := List.length_filter_le (fun x => !decide (ns.count x = 2)) (firsts ns)
        omega) fun x hx => nm_ok (hnm x (mem_firsts.mp (List.mem_filter.mp hx).1))
      simp_arith [e3]
      refine ret_blT (by simp) (fun j hj => ?_) ?_
      · exact ap _ j hj
      · simp only [polysB, q1, hpre, q3, hns, q4, Bool.true_and]
        rw [Bool.eq_iff_iff, decide_eq_true_iff, List.filter_eq_nil_iff, List.all_eq_true]
        simp
  · exact ⟨[], _, _, rfl, rfl, rfl, rfl⟩
end K24
-- K24O
namespace K24
open Py PySem PySem.Spec PyProof.Rows L2
theorem are_polygons_no {d : D} {S : Store} (h : isiD S d [.b "tuple"] = some false) : f_are_polygons [d] S = .ok (.bl false) S := by
  refine eq_of_WO ?_
  unfold f_are_polygons WO
  rw [WM_runF]
  unfold b_are_polygons
  simp only [xisi_, List.any_cons, List.any_nil, Bool.or_false] at h
  simp_arith [h]
  exact ret_bl rfl
theorem law_polygons_no {d : D} {S : Store} (h : isiD S d [.b "tuple"] = some false) : f_law_are_polygons [d] S = .ok (.bl false) S := by
  refine eq_of_WO ?_
  unfold f_law_are_polygons WO
  rw [WM_runF]
  unfold b_law_are_polygons
  simp only [xisi_, List.any_cons, List.any_nil, Bool.or_false] at h
  simp_arith [h]
  exact ret_bl rfl
def notLst : D → Bool
  | .lst _ => false
  | _ => true
/-- what is judged: plain, or a list, or a dict of its own -/
inductive Val (S : Store) : D → Prop
  | ok (d : D) : okV 6 d = true → notLst d = true → Val S d
  | lst (n : Nat) (xs : List D) : S[n]? = some (.lst xs) → xs.length ≤ 60 → (∀ x ∈ xs, okV 5 x = true) → Val S (.cell n)
  | dic (n : Nat) (x : D) : S[n]? = some (.dic false [(.inr "a", x)]) → okV 6 x = true → Val S (.cell n)
theorem Val.judge {S : Store} {d : D} (h : Val S d) : f_are_polygons [d] S = .ok (.bl (polysB d)) S ∧ f_law_are_polygons [d] S = .ok (.bl (polysB d)) S := by
  cases h with
  | ok _ h hh =>
    cases d with
    | cell n => cases h
    | ins a b c => cases h
    | tup ps =>
      obtain ⟨h1, h2⟩ := okV.tup h
      exact ⟨are_polygons_tup (m := 4) h2 h1 S, law_polygons_tup (m := 3) h2 h1 S⟩
    | _ => exact ⟨are_polygons_no rfl, law_polygons_no rfl⟩
  | lst n xs e _ _ => exact ⟨are_polygons_no (by rw [xisi_, xty_cell, e] <;> rfl), law_polygons_no (by rw [xisi_, xty_cell, e] <;> rfl)⟩
  | dic n xs e _ => exact ⟨are_polygons_no (by rw [xisi_, xty_cell, e] <;> rfl), law_polygons_no (by rw [xisi_, xty_cell, e] <;> rfl)⟩
theorem Val.ext {S S' : Store} {d : D} (h : Val S d) (q : ∀ n, d = .cell n → S'[n]? = S[n]?) : Val S' d := by
  cases h with
  | ok _ h hh => exact .ok _ h hh
  | lst n xs e a b => exact .lst n xs (by rw [q n rfl]; exact e) a b
  | dic n x e a => exact .dic n x (by rw [q n rfl]; exact e) a
theorem Val.lt {S : Store} {d : D} (h : Val S d) {n : Nat} (e : d = .cell n) : n < S.length := by
  subst e
  cases h with
  | ok _ h hh => cases h
  | lst n xs e a b => exact (List.getElem?_eq_some_iff.mp e).1
  | dic n x e a => exact (List.getElem?_eq_some_iff.mp e).1
theorem Val.app {S : Store} {d : D} (h : Val S d) (T : Store) : Val (S ++ T) d := h.ext fun n e => List.getElem?_append_left (h.lt e)
theorem Val.fz {S : Store} {d : D} (h : Val S d) (S' : Store) {m : Nat} (hm : 900 ≤ m) : fzD S' S.length m d = some d := by
  have l := fun n => h.lt (n := n)
  cases h with
  | ok _ h hh => exact (okV.pl h).fz (by omega) _ _
  | lst n xs e a b =>
    obtain ⟨m, rfl⟩ : ∃ k, m = k + 1 := ⟨m - 1, by omega⟩
    show (if n < S.length then some (D.cell n) else _) = _
    rw [if_pos (l n rfl)]
  | dic n x e a =>
    obtain ⟨m, rfl⟩ : ∃ k, m = k + 1 := ⟨m - 1, by omega⟩
    show (if n < S.length then some (D.cell n) else _) = _
    rw [if_pos (l n rfl)]
theorem Val.sa {S : Store} {d : D} (h : Val S d) : Sa S 40 d d := by
  cases h with
  | ok _ h hh => exact (okV.sa h S).mono (by omega)
  | lst n xs e a b =>
    refine .lst (.inr ⟨n, rfl, e⟩) (.inr ⟨n, rfl, e⟩) rfl (by omega) fun i x y e1 e2 => ?_
    rw [e1] at e2
    cases e2
    exact (okV.sa (b x (List.mem_of_getElem? e1)) S).mono (by omega)
  | dic n x e a =>
    have hp : ∀ p ∈ [((.inr "a" : Key), x)], p = (.inr "a", x) := fun p hp => by simpa using hp
    refine .dic e (by simp) (fun p h => ?_) (fun p h S' => ?_)
    · rw [hp p h]
      simp [valD]
    · rw [hp p h]
      exact (okV.sa a S').mono (by omega)
def filmD (d : D) : D := .ins "Film" ["polygons"] [d]
theorem polysB_tup {d : D} (h : polysB d = true) : ∃ ps, d = .tup ps := by
  cases d with
  | tup ps => exact ⟨ps, rfl⟩
  | _ => cases h
/-- a film is made -/
theorem init_ok {S : Store} {d : D} (h : Val S d) (hb : polysB d = true) : makeD "Film" false f_Film__init_ [d] S = .ok (filmD d) S := by
  refine eq_of_WO ?_
  unfold WO
  rw [WM_make]
  unfold f_Film__init_
  rw [WM_runF]
  unfold b_Film__init_
  have hv := (h.app [.ins "Film" []]).judge.1
  rw [hb] at hv
  have z : (0 < 1000) = True := by decide
  have sf : setF "polygons" d [] = [(("polygons" : Str), d)] := rfl
  simp_arith [hv, z, sf]
  obtain ⟨ps, rfl⟩ := polysB_tup hb
  have hok : okV 6 (.tup ps) = true := by
    cases h with
    | ok _ h hh => exact h
  refine WM_ret1 (fun j hj => ?_) rfl ⟨rfl, ?_⟩
  · by_cases e : j = S.length
    · subst e
      exact .inr ⟨CV.ins "Film" [(("polygons" : Str), D.tup ps)], by rw [at_app0] <;> rfl, okV_below _ hok, True.intro⟩
    · have : j < S.length := by simp at hj; omega
      exact .inl (by rw [List.getElem?_append_left this, List.getElem?_append_left this])
  · have e0 : (S ++ [CV.ins "Film" [(("polygons" : Str), D.tup ps)]]).take (S ++ [CV.ins "Film" []]).length = S ++ [CV.ins "Film" [(("polygons" : Str), D.tup ps)]] := List.take_of_length_le (by simp)
    rw [e0]
    refine WM_retA rfl Kept.rfl' (d' := filmD (.tup ps)) ?_ ⟨rfl, rfl⟩
    show (if S.length < S.length then some (D.cell S.length) else (match (S ++ [CV.ins "Film" [(("polygons" : Str), D.tup ps)]])[S.length]? with
      | some (.lst xs) => (fzL (S ++ [CV.ins "Film" [(("polygons" : Str), D.tup ps)]]) S.length 999 xs).map D.lst
      | some (.ins c fs) => (fzL (S ++ [CV.ins "Film" [(("polygons" : Str), D.tup ps)]]) S.length 999 (fs.map (·.2))).map (.ins c (fs.map (·.1)))
      | _ => none)) = _
    rw [if_neg (Nat.lt_irrefl _), at_app0]
    show (fzL (S ++ [CV.ins "Film" [(("polygons" : Str), D.tup ps)]]) S.length 999 [D.tup ps]).map (D.ins "Film" ["polygons"]) = _
    rw [fzL_of _ _ 999 [D.tup ps] (by have := (okV.pl hok).1; simp only [fuL]; omega) (by have := (okV.pl hok).2; simp only [noCL, this]; rfl)]
    rfl
theorem init_no {S : Store} {d : D} (h : Val S d) (hb : polysB d = false) : makeD "Film" false f_Film__init_ [d] S = .exc ⟨"InvalidPolygons", [("given", d)]⟩ S := by
  have key : WM (makeD "Film" false f_Film__init_ [d] S) (fun _ _ => False) fun x S' => x = ⟨"InvalidPolygons", [("given", d)]⟩ ∧ S' = S := by
    rw [WM_make]
    unfold f_Film__init_
    rw [WM_runF]
    unfold b_Film__init_
    have hv := (h.app [.ins "Film" []]).judge.1
    rw [hb] at hv
    have fg : fGiven "InvalidPolygons" [d] = M.pure ⟨"InvalidPolygons", [("given", d)]⟩ := rfl
    simp_arith [hv, fg]
    refine WM_exc2 (fzF_one ((h.app _).fz _ (by decide))) ?_
    exact WM_excA rfl Kept.rfl' (fzF_one (h.fz _ (by decide))) ⟨rfl, rfl⟩
  unfold WM at key
  revert key
  cases makeD "Film" false f_Film__init_ [d] S with
  | ok d S => intro key; exact key.elim
  | exc x S' => rintro ⟨rfl, rfl⟩; rfl
  | stuck => intro key; exact key.elim
end K24
-- K24P
namespace K24
open Py PySem PySem.Spec PyProof.Rows L2
theorem fz_lst2 {S : Store} {x : Str} {d e : D} (h : fzD S S.length 997 d = some e) : fzD S S.length 1000 (.lst [.str x, d]) = some (.lst [.str x, e]) := by
  show (match fzD S S.length 998 (.str x), fzL S S.length 998 [d] with
    | some p, some ps => some (p :: ps)
    | _, _ => none).map D.lst = _
  show (match some (D.str x), (match fzD S S.length 997 d, some [] with
    | some p, some ps => some (p :: ps)
    | _, _ => none) with
    | some p, some ps => some (p :: ps)
    | _, _ => none).map D.lst = _
  rw [h]
  rfl
theorem film_fz {d : D} (h : okV 6 d = true) (S : Store) (n : Nat) : fzD S n 997 (filmD d) = some (filmD d) := by
  have h1 := okV.pl h
  refine fzD_of _ _ _ _ ?_ ?_
  · have := h1.1
    simp only [filmD, fu, fuL]; omega
  · have := h1.2
    simp only [filmD, noC, noCL, this]; rfl
theorem map1 {d : D} : List.mapM (m := Option) id [some d] = some [d] := rfl
theorem Val.tup {S : Store} {d : D} (h : Val S d) (hb : polysB d = true) : okV 6 d = true := by
  obtain ⟨ps, rfl⟩ := polysB_tup hb
  cases h with
  | ok _ h _ => exact h
theorem made_ok {S : Store} {d : D} (h : Val S d) (hb : polysB d = true) (b : Bool) : f_law_made [d, .bl b] S = .ok (.lst [.str "made", filmD d]) S := by
  refine eq_of_WO ?_
  unfold f_law_made WO
  rw [WM_runF]
  unfold b_law_made
  have fin : WM (retF true S (D.lst [D.str "made", filmD d]) S) (fun d_1 S' => d_1 = D.lst [D.str "made", filmD d] ∧ S' = S) fun x x_1 => False := WM_ret2 (fz_lst2 (film_fz (h.tup hb) _ _)) ⟨rfl, rfl⟩
  cases b
  · simp_arith [init_ok h hb]
    exact fin
  · simp_arith [init_ok h hb, map1]
    exact fin
theorem made_no {S : Store} {d : D} (h : Val S d) (hb : polysB d = false) (b : Bool) : f_law_made [d, .bl b] S = .ok (.lst [.str "polygons", d]) S := by
  refine eq_of_WO ?_
  unfold f_law_made WO
  rw [WM_runF]
  unfold b_law_made
  have fin : WM (retF true S (D.lst [D.str "polygons", d]) S) (fun d_1 S' => d_1 = D.lst [D.str "polygons", d] ∧ S' = S) fun x x_1 => False := WM_ret2 (fz_lst2 (h.fz _ (by decide))) ⟨rfl, rfl⟩
  cases b
  · simp_arith [init_no h hb]
    show WS (.ok (.rt (.lst [.str "polygons", d])) [some d, some (.bl false), none, none] S) _ _ _ _ _
    rw [WS_okrt]
    exact fin
  · simp_arith [init_no h hb, map1]
    show WS (.ok (.rt (.lst [.str "polygons", d])) [some d, some (.bl true), none, none] S) _ _ _ _ _
    rw [WS_okrt]
    exact fin
/-- the very value: a list or dict grows with it -/
theorem blamed_sp {S : Store} {d : D} (h : Val S d) {k : D → Store → Prop} {kx : Exn → Store → Prop} (q : ∀ S', S'.length = S.length → (∀ j, (∀ n, d = .cell n → j ≠ n) → S'[j]? = S[j]?) → k (.bl true) S') : WM (f_law_blamed [d, d] S) k kx := by
  unfold f_law_blamed
  rw [WM_runF]
  unfold b_law_blamed
  have sa := same_sp h.sa
  cases h with
  | ok _ h hh =>
    have q0 := q S rfl fun _ _ => rfl
    cases d with
    | cell n => cases h
    | ins a b c => cases h
    | scr a => cases h
    | lst a => cases hh
    | _ =>
      simp_arith [sa]
      exact WM_ret2 rfl q0
  | lst n xs e a b =>
    have hn := (List.getElem?_eq_some_iff.mp e).1
    have e2 : (S.set n (.lst (xs ++ [D.str "more"])))[n]? = some (.lst (xs ++ [D.str "more"])) := List.getElem?_set_self hn
    have sa2 : f_law_same 40 [.cell n, .cell n] _ = _ := same_sp (m := 40) (Sa.lst (.inr ⟨n, rfl, e2⟩) (.inr ⟨n, rfl, e2⟩) rfl (by simp; omega) fun i x y e1 e2 => by
      rw [e1] at e2
      cases e2
      rcases List.mem_append.mp (List.mem_of_getElem? e1) with hx | hx
      · exact (okV.sa (b x hx) _).mono (by omega)
      · have : x = .str "more" := by simpa using hx
        subst this
        exact .str _ (by decide +kernel) (by decide +kernel))
    simp_arith [e, sa, e2, sa2]
    refine WM_ret1 (keptC hn ?_) rfl ?_
    · refine belowL_mem fun x hx => ?_
      rcases List.mem_append.mp hx with hx | hx
      · exact okV_below _ (b x hx)
      · have : x = .str "more" := by simpa using hx
        subst this
        exact True.intro
    · rw [List.take_of_length_le (by simp)]
      exact q _ (by simp) fun j hj => List.getElem?_set_ne (Ne.symm (hj n rfl))
  | dic n x e a =>
    have hn := (List.getElem?_eq_some_iff.mp e).1
    have pd : putD [((.inr "a" : Key), x)] (.inr ("more" : Str)) (.int 1) = [(.inr "a", x), (.inr ("more" : Str), .int 1)] := by
      have : ("a" : Str) ≠ "more" := by decide
      simp [putD, this]
    have e2 : (S.set n (.dic false [(.inr "a", x), (.inr ("more" : Str), .int 1)]))[n]? = some (.dic false [(.inr "a", x), (.inr ("more" : Str), .int 1)]) := List.getElem?_set_self hn
    have sa2 : f_law_same 40 [.cell n, .cell n] _ = _ := same_sp (m := 40) (Sa.dic e2 (by simp) (fun p hp => by
      simp only [List.mem_cons, List.mem_nil_iff, or_false] at hp
      have h1 : ("a" : Str) ≠ "more" := by decide
      rcases hp with rfl | rfl
      · simp [valD]
      · simp [valD, h1]) fun p hp S' => by
      simp only [List.mem_cons, List.mem_nil_iff, or_false] at hp
      rcases hp with rfl | rfl
      · exact (okV.sa a S').mono (by omega)
      · exact .int 1)
    simp_arith [e, sa, pd, e2, sa2]
    refine WM_ret1 (keptC hn ⟨okV_below _ a, True.intro, True.intro⟩) rfl ?_
    rw [List.take_of_length_le (by simp)]
    exact q _ (by simp) fun j hj => List.getElem?_set_ne (Ne.symm (hj n rfl))
/-- a copy of its own -/
theorem fresh_sp {S : Store} {d : D} (h : okV 6 d = true ∨ ∃ n x, d = .cell n ∧ S[n]? = some (.dic false [(.inr "a", x)]) ∧ okV 6 x = true) {k : D → Store → Prop} {kx : Exn → Store → Prop}
    (q : ∀ d' T, Val (S ++ T) d' → (∀ n, d' = .cell n → n = S.length) → polysB d' = polysB d → (polysB d = true → d' = d) → k d' (S ++ T)) : WM (f_law_fresh [d] S) k kx := by
  unfold f_law_fresh
  rw [WM_runF]
  unfold b_law_fresh
  have q0 := q d []
  rw [List.append_nil] at q0
  rcases h with h | ⟨n, x, rfl, e, h⟩
  · cases d with
    | cell n => cases h
    | ins a b c => cases h
    | scr a => cases h
    | lst xs =>
      obtain ⟨h1, h2⟩ := okV.lst h
      simp_arith
      exact q _ _ (.lst _ xs (by rw [at_app0] <;> rfl) h1 h2) (fun n e => by cases e; rfl) rfl (fun z => by cases z)
    | _ =>
      simp_arith
      exact q0 (.ok _ h rfl) (fun n e => by cases e) rfl fun _ => rfl
  · simp_arith [e]
    exact q _ _ (.dic _ x (by rw [at_app0] <;> rfl) h) (fun n e => by cases e; rfl) rfl (fun z => by cases z)
end K24
-- K24Q
namespace K24
open Py PySem PySem.Spec PyProof.Rows L2
theorem look1 {x : Str} {d : D} : ([x].zip [d]).lookup x = some d := by simp [List.zip, List.lookup]
theorem xfilm_attr {a : D} : ([("polygons" : Str)].zip [a]).lookup ("polygons" : Str) = some a := look1
theorem eq_film {S : Store} {a b : D} (ha : okV 6 a = true) (hb : okV 6 b = true) : f_Film__eq_ [filmD a, filmD b] S = .ok (.bl (eqB a b)) S := by
  refine eq_of_WO ?_
  unfold f_Film__eq_ WO
  rw [WM_runF]
  unfold b_Film__eq_ filmD
  have e0 : decide (("Film" : Str) = "Film") = true := by decide
  simp_arith [e0, xfilm_attr, eqD_ok S ha hb (by decide) (by decide)]
  exact ret_bl rfl
theorem eq_other {S : Store} {a d : D} (h : isiD S d [.c "Film"] = some false) : f_Film__eq_ [filmD a, d] S = .ok (.bl false) S := by
  refine eq_of_WO ?_
  unfold f_Film__eq_ WO
  rw [WM_runF]
  unfold b_Film__eq_ filmD
  simp only [xisi_, List.any_cons, List.any_nil, Bool.or_false] at h
  simp_arith [h]
  exact ret_bl rfl
theorem eqM_film {S : Store} {a b : D} (ha : okV 6 a = true) (hb : okV 6 b = true) : eqM "Film" f_Film__eq_ (filmD a) (filmD b) S = .ok (.bl (eqB a b)) S := by
  have := eq_film (S := S) ha hb
  unfold filmD at this ⊢
  rw [xeqm_ins, if_pos ⟨rfl, rfl⟩, this]
theorem eqM_other {S : Store} {a d : D} (h : isiD S d [.c "Film"] = some false) : eqM "Film" f_Film__eq_ (filmD a) d S = .ok (.bl false) S := by
  have := eq_other (a := a) h
  have e : (tyD S d).isSome = true := by
    rw [xisi_] at h
    cases e : tyD S d with
    | none => rw [e] at h; cases h
    | some t => rfl
  unfold filmD at this ⊢
  rw [xeqm_ins, if_pos ⟨rfl, e⟩, this]
/-- a value for the judges: plain, or a dict that stands -/
def Vv (n : Nat) (S : Store) (d : D) : Prop := okV 6 d = true ∨ ∃ i x, d = .cell i ∧ i ≠ n ∧ S[i]? = some (.dic false [(.inr "a", x)]) ∧ okV 6 x = true
theorem Vv.lg {n : Nat} {S S' : Store} {d : D} (h : Vv n S d) (g : Lg n S S') : Vv n S' d := by
  rcases h with h | ⟨i, x, rfl, hi, e, h⟩
  · exact .inl h
  · exact .inr ⟨i, x, rfl, hi, by rw [g.oth i (List.getElem?_eq_some_iff.mp e).1 hi]; exact e, h⟩
/-- the law's judge, of any value -/
theorem Vv.judge {n : Nat} {S : Store} {d : D} (h : Vv n S d) : f_law_are_polygons [d] S = .ok (.bl (polysB d)) S := by
  rcases h with h | ⟨i, x, rfl, hi, e, h⟩
  · cases d with
    | lst xs => exact law_polygons_no rfl
    | _ => exact (Val.ok _ h rfl).judge.2
  · exact (Val.dic i x e h).judge.2
end K24
-- K24R
namespace K24
open Py PySem PySem.Spec PyProof.Rows L2
theorem s_made : PyData.strOk "made" = true := by decide +kernel
theorem s_poly : PyData.strOk "polygons" = true := by decide +kernel
theorem eq_mm (S : Store) : eqD S (.str "made") (.str "made") = some true := (eqD_str S s_made s_made).trans (by rw [decide_eq_true rfl])
theorem eq_pp (S : Store) : eqD S (.str "polygons") (.str "polygons") = some true := (eqD_str S s_poly s_poly).trans (by rw [decide_eq_true rfl])
theorem a20 {a b : D} : atI [a, b] 0 = some a := rfl
theorem a21 {a b : D} : atI [a, b] 1 = some b := rfl
theorem isF {S : Store} {d : D} : tyD S (filmD d) = some (.c "Film") := rfl
theorem eqM_film' {S : Store} {a b : D} (ha : okV 6 a = true) (hb : okV 6 b = true) : eqM "Film" f_Film__eq_ (.ins "Film" ["polygons"] [a]) (.ins "Film" ["polygons"] [b]) S = .ok (.bl (eqB a b)) S := eqM_film ha hb
theorem isFF : decide (("Film" : Str) = "Film") = true := by decide
theorem values_sp {n : Nat} {S : Store} (hb : Bx n S) {P : D} (hP : okV 6 P = true) (hPb : polysB P = true) {b : Bool}
    (near : ∀ {k : D → Store → Prop} {kx : Exn → Store → Prop}, (∀ c vs S', S'[c]? = some (.lst vs) → vs.length ≤ 500 → Lg n S S' → (∀ d ∈ vs, Vv n S' d) → k (.cell c) S') → WM (f_law_near [.cell n, P] S) k kx)
    {k : D → Store → Prop} {kx : Exn → Store → Prop} (q : ∀ S', St n S S' → k (.bl true) S') : WM (f_law_values_right [.cell n, P, .bl b] S) k kx := by
  unfold f_law_values_right
  rw [WM_runF]
  unfold b_law_values_right
  have hv : Val S P := .ok _ hP (by obtain ⟨ps, rfl⟩ := polysB_tup hPb; rfl)
  simp_arith [made_ok hv hPb, a21]
  refine near fun c vs S1 hc hl lg hvs => ?_
  simp_arith [hc]
  refine for_sp (its := P :: vs) (fun ds env S' => ∃ b e4 e5 e6 e7, env = [some (.cell n), some P, some (.bl b), some (filmD P), e4, e5, e6, e7] ∧ Lg n S1 S' ∧ ∀ d ∈ ds, Vv n S1 d) ?_ ?_ _ _ _ ?_
  · rintro d ds _ S2 ⟨b, e4, e5, e6, e7, rfl, lg2, hds⟩
    rw [WO_bindn]
    have hd : Vv n S2 d := (hds d List.mem_cons_self).lg lg2
    simp_arith [hd.judge]
    refine fresh_sp (by
      rcases hd with h | ⟨i, x, e1, _, e2, h⟩
      · exact .inl h
      · exact .inr ⟨i, x, e1, e2, h⟩) fun d' T hv' hc' hp' hd' => ?_
    have lg3 : Lg n S1 (S2 ++ T) := lg2.trans (Lg.app lg2.box T)
    by_cases hb : polysB d = true
    · have := hd' hb
      subst this
      have hok : okV 6 d' = true := hv'.tup hb
      have sa1 := same_sp (S := S2 ++ T) ((okV.sa hok (S2 ++ T)).mono (show 6 ≤ 40 by decide))
      have sa2 := same_sp (S := S2 ++ T) (m := 40) (a := .lst [.bl (eqB P d'), .bl (eqB d' P)]) (b := .lst [.bl (eqB d' P), .bl (eqB d' P)]) (.lst (.inl rfl) (.inl rfl) rfl (by simp) fun i x y e1 e2 => by
        rw [eqB_comm P d'] at e1
        rw [e1] at e2
        cases e2
        have : x = .bl (eqB d' P) := by simpa using List.mem_of_getElem? e1
        subst this
        exact .bl _)
      rw [hb]
      simp_arith [filmD, made_ok hv' hb, a20, a21, eq_mm, isFF, xfilm_attr, sa1, eqM_film' hP hok, eqM_film' hok hP, eqD_ok (S2 ++ T) hok hP (show 6 ≤ 16 by decide) (show 6 ≤ 16 by decide), sa2]
      exact ⟨_, _, _, _, _, rfl, lg3, fun d h => hds d (List.mem_cons_of_mem _ h)⟩
    · have hb : polysB d = false := by simpa using hb
      rw [hb]
      simp_arith [made_no hv' (hp'.trans hb), a20, a21, eq_pp]
      refine blamed_sp hv' fun S3 hl3 ho3 => ?_
      simp_arith
      refine ⟨_, _, _, _, _, rfl, lg2.trans (S1 := S2) ?_, fun d h => hds d (List.mem_cons_of_mem _ h)⟩
      have lt2 := lg2.box.lt
      have o : ∀ j, j < S2.length → S3[j]? = S2[j]? := fun j hj => by
        rw [ho3 j fun m e => by have := hc' m e; omega, List.getElem?_append_left hj]
      refine ⟨by rw [hl3]; simp, ?_, fun j hj _ => o j hj⟩
      obtain ⟨x, y, z, w, e⟩ := lg2.box
      exact ⟨x, y, z, w, by rw [o n lt2]; exact e⟩
  · rintro _ S2 ⟨b, e4, e5, e6, e7, rfl, lg2, hds⟩
    simp_arith
    have l := lg.trans lg2
    exact WM_ret1 l.kept rfl (q _ (l.cut hb.lt))
  · refine ⟨b, _, _, _, _, rfl, Lg.refl lg.box, fun d hd => ?_⟩
    rcases List.mem_cons.mp hd with rfl | hd
    · exact .inl hP
    · exact hvs d hd
end K24
-- K24T
namespace K24
open Py PySem PySem.Spec PyProof.Rows L2
def nm8 : List Str := ["x", "y", "z", "a", "b", "ab", "zz", "abcdefghijkl"]
theorem nm8_ok : nm8.Nodup ∧ ∀ x ∈ nm8, nmB x = true := by decide +kernel
theorem str_ok2 {x : Str} (h : nmB x = true) : okV 2 (.str x) = true ∧ sideB (.str x) = true := by
  refine ⟨?_, h⟩
  show (PyData.strOk x && decide (x.length ≤ 1000)) = true
  have := h
  unfold nmB at this
  simp only [Bool.and_eq_true, decide_eq_true_eq] at this
  rw [nm_ok h, decide_eq_true (by omega)]
  rfl
theorem side_ok2 {x : Str} (h : nmB x = true) {i : Int} (hi : i = 1 ∨ i = -1) : okV 2 (.tup [.str x, .int i]) = true ∧ sideB (.tup [.str x, .int i]) = true := by
  have h1 := (str_ok2 h).1
  refine ⟨?_, ?_⟩
  · refine okV_tup (by simp) fun d hd => ?_
    simp only [List.mem_cons, List.mem_nil_iff, or_false] at hd
    rcases hd with rfl | rfl
    · exact h1
    · rfl
  · show (nmB x && _) = true
    rw [h]
    rcases hi with rfl | rfl <;> rfl
/-- drawn letters -/
theorem letters_sp {n : Nat} {S0 : Store} {ls : List Str} (hls : ∀ x ∈ ls, nmB x = true) (h1 : 1 ≤ ls.length) (h2 : ls.length ≤ 100) {env : Py.Env} {its : List D} {f : D → M (Option D)}
    (hf : ∀ d S, Bx n S → WO (f d S) fun o S' => ∃ x ∈ ls, o = some (.str x) ∧ St n S S') {k : List D → Store → Prop} {kx : Exn → Store → Prop} {ds : List D} {S : Store} (st : St n S0 S) (q : ∀ (ws : List Str) S', (∀ x ∈ ws, x ∈ ls) → ws.length = ds.length → St n S0 S' → k (ws.map .str) S') : WM (turnsW ⟨its, []⟩ f ds S) k kx := by
  refine turns_inv (fun rs es S' => ∃ ws : List Str, rs = ws.map .str ∧ (∀ x ∈ ws, x ∈ ls) ∧ ws.length + es.length = ds.length ∧ St n S0 S') ?_ ?_ ds S ⟨[], rfl, (fun _ h => by cases h), by simp, st⟩
  · rintro rs d es S1 ⟨ws, rfl, h, l, st1⟩
    refine WO.to (hf d S1 st1.box) ?_
    rintro o S2 ⟨x, hx, rfl, st2⟩
    refine ⟨ws ++ [x], by simp, fun y hy => ?_, by simp at l ⊢; omega, st1.trans st2⟩
    rcases List.mem_append.mp hy with hy | hy
    · exact h y hy
    · have : y = x := by simpa using hy
      exact this ▸ hx
  · rintro rs S1 ⟨ws, rfl, h, l, st1⟩
    exact q ws S1 h (by simpa using l) st1
theorem film_sp {n : Nat} {S : Store} (hb : Bx n S) {sg : Bool} {g m : Nat} (hg : g ≤ 8) (hm : m ≤ 24) {ls : List Str} (hls : ∀ x ∈ ls, nmB x = true) (l1 : 1 ≤ ls.length) (l2 : ls.length ≤ 100) {k : D → Store → Prop} {kx : Exn → Store → Prop}
    (q : ∀ Ls S', Fm 4 (2 * g + m) Ls → St n S S' → k (.tup (Ls.map .tup)) S') : WM (f_law_film [.cell n, .bl sg, .int (g : Int), .lst (ls.map .str), .int (m : Int)] S) k kx := by
  unfold f_law_film
  rw [WM_runF]
  unfold b_law_film
  simp_arith
  refine mixed_sp hb (xs := nm8.map D.str) (.inl rfl) (by decide) (fun d hd => ?_) fun ys S1 hy st1 => ?_
  · obtain ⟨x, _, rfl⟩ := List.mem_map.mp hd
    exact Pl.str x
  obtain ⟨zs, rfl, hz⟩ := perm_strs hy
  have ct : Py.cutD (zs.map D.str) none (some (g : Int)) = (zs.take g).map D.str := by rw [cut_to, List.map_take]
  simp_arith [ct]
  have hzn : (zs.take g).Nodup := (hz.symm.nodup nm8_ok.1).sublist (List.take_sublist _ _)
  have hzb : ∀ x ∈ zs.take g, nmB x = true := fun x hx => nm8_ok.2 x (hz.mem_iff.mp (List.mem_of_mem_take hx))
  have hzl : (zs.take g).length ≤ g := by rw [List.length_take]; omega
  have hz8 : (zs.take g).length ≤ 8 := by omega
  generalize zs.take g = names at hzn hzb hzl hz8 ⊢
  refine for_sp (fun ds env S' => ∃ (rest done : List Str) (ss : List D) (e7 e8 : Option D), ds = rest.map D.str ∧ names = done ++ rest ∧ env = [some (.cell n), some (.bl sg), some (.int g), some (.lst (ls.map .str)), some (.int m), some (.lst (names.map .str)), some (.lst ss), e7, e8, none, none, none, none, none] ∧ (∀ d ∈ ss, okV 2 d = true ∧ sideB d = true) ∧ ss.length = 2 * done.length ∧ (namesP ss).Perm (done ++ done) ∧ St n S S') ?_ ?_ _ _ _ ?_
  · rintro d ds _ S2 ⟨rest, done, ss, e7, e8, hds, hn, rfl, hok, hl, hp, st2⟩
    cases rest with
    | nil => cases hds
    | cons x rest =>
    obtain ⟨rfl, rfl⟩ := List.cons.inj hds
    rw [WO_bindn]
    simp_arith
    refine take_sp st2.box (by omega) (by omega) fun y S3 hy st3 => ?_
    have hx : nmB x = true := hzb x (by rw [hn]; simp)
    have hnl : done.length ≤ names.length := by rw [hn]; simp
    have key : ∀ {e8 : Option D} {S4 : Store} {i j : Int}, (i = 1 ∨ i = -1) → (j = 1 ∨ j = -1) → St n S3 S4 → ∃ (rest' done' : List Str) (ss' : List D) (e7 e8' : Option D), rest.map D.str = rest'.map D.str ∧ names = done' ++ rest' ∧ [some (D.cell n), some (D.bl sg), some (D.int g), some (D.lst (ls.map .str)), some (D.int m), some (D.lst (names.map .str)), some (D.lst (ss ++ [D.tup [.str x, .int i], D.tup [.str x, .int j]])), some (D.str x), e8, none, none, none, none, none] = [some (D.cell n), some (D.bl sg), some (D.int g), some (D.lst (ls.map .str)), some (D.int m), some (D.lst (names.map .str)), some (D.lst ss'), e7, e8', none, none, none, none, none] ∧ (∀ d ∈ ss', okV 2 d = true ∧ sideB d = true) ∧ ss'.length = 2 * done'.length ∧ (namesP ss').Perm (done' ++ done') ∧ St n S S4 := fun {e8 S4 i j} hi hj st4 => by
      refine ⟨rest, done ++ [x], _, _, _, rfl, by rw [hn, List.append_assoc]; rfl, rfl, fun d hd => ?_, by simp; omega, ?_, st2.trans (st3.trans st4)⟩
      · rcases List.mem_append.mp hd with hd | hd
        · exact hok d hd
        · simp only [List.mem_cons, List.mem_nil_iff, or_false] at hd
          rcases hd with rfl | rfl
          · exact side_ok2 hx hi
          · exact side_ok2 hx hj
      · rw [namesP_app]
        show (namesP ss ++ [x, x]).Perm _
        refine (hp.append_right [x, x]).trans ?_
        have e1 : done ++ [x] ++ (done ++ [x]) = done ++ (x :: (done ++ [x])) := by simp
        have e2 : done ++ done ++ [x, x] = done ++ (done ++ [x] ++ [x]) := by simp
        rw [e1, e2]
        exact (List.perm_append_comm (l₁ := done ++ [x]) (l₂ := [x])).append_left done
    have way : ∀ y : Nat, (y : Int) < 2 → (1 - 2 * (y : Int) = 1 ∨ 1 - 2 * (y : Int) = -1) := fun y h => by omega
    have way0 : ∀ y : Nat, (y : Int) < 2 → (0 - (1 - 2 * (y : Int)) = 1 ∨ 0 - (1 - 2 * (y : Int)) = -1) := fun y h => by omega
    cases sg
    · simp_arith
      refine take_sp st3.box (by omega) (by omega) fun z S4 hz' st4 => ?_
      simp_arith
      by_cases hz0 : (z : Int) = 0
      · simp_arith [hz0]
        exact key (way y hy) (way0 y hy) st4
      · simp_arith [hz0]
        exact key (way y hy) (way y hy) st4
    · simp_arith
      exact key (way y hy) (way0 y hy) (St.refl st3.box)
  · rintro _ S2 ⟨rest, done, ss, e7, e8, hds, hn, rfl, hok, hl, hp, st2⟩
    have hr : rest = [] := by cases rest with | nil => rfl | cons a b => cases hds
    subst hr
    rw [List.append_nil] at hn
    subst hn
    simp_arith
    refine take_sp st2.box (by omega) (by omega) fun mn S3 hmn st3 => ?_
    simp_arith
    refine take_sp st3.box (by omega) (by omega) fun r S4 hr st4 => ?_
    have st24 := st2.trans (st3.trans st4)
    simp_arith
    refine letters_sp (S0 := S) (ls := ls) hls l1 l2 (env := []) (fun d S5 b5 => ?_) st24 fun ws S5 hws lws st5 => ?_
    · unfold WO
      simp_arith [List.length_map]
      refine take_sp b5 (by omega) (by omega) fun x S6 hx st6 => ?_
      have hx' : x < ls.length := by omega
      have e : atI (ls.map D.str) (x : Int) = some (.str ls[x]) := atI_nat (by rw [List.getElem?_map, List.getElem?_eq_getElem hx']; rfl)
      simp_arith [e]
      exact ⟨ls[x], List.getElem_mem _, rfl, st6⟩
    rw [List.length_map, intsL_len] at lws
    have lw : ws.length ≤ m := by omega
    simp_arith [List.length_map]
    refine mixed_sp st5.box (xs := ss ++ ws.map D.str) (.inl rfl) (by simp; omega) (fun d hd => ?_) fun sides S6 hs st6 => ?_
    · rcases List.mem_append.mp hd with hd | hd
      · exact (okV.pl (hok d hd).1).mono (by decide)
      · obtain ⟨x, _, rfl⟩ := List.mem_map.mp hd
        exact Pl.str x
    have hsd : ∀ d ∈ sides, okV 2 d = true ∧ sideB d = true := fun d hd => by
      rcases List.mem_append.mp (hs.mem_iff.mp hd) with hd | hd
      · exact hok d hd
      · obtain ⟨x, hx, rfl⟩ := List.mem_map.mp hd
        exact str_ok2 (hls x (hws x hx))
    have hsl : sides.length ≤ 2 * g + m := by
      rw [hs.length_eq, List.length_append, List.length_map]
      omega
    have hsn : (namesP sides).Perm (names ++ names) := by
      refine (namesP_perm hs).trans ?_
      rw [namesP_app, namesP_strs, List.append_nil]
      exact hp
    have st6' := st5.trans st6
    have hn6 := st6'.box.lt
    simp_arith
    refine turns_inv (fun rs es S' => ∃ j : Nat, rs = (List.range j).map (fun i : Nat => D.cell (S6.length + i)) ∧ S' = S6 ++ List.replicate j (CV.lst []) ∧ j + es.length = 1 + mn) ?_ ?_ _ _ ⟨0, rfl, by simp, by simp [intsL_len]; omega⟩
    · rintro rs d es _ ⟨j, rfl, rfl, hj⟩
      unfold WO
      simp_arith
      refine ⟨j + 1, ?_, ?_, by simp at hj ⊢; omega⟩
      · rw [List.range_succ, List.map_append, List.length_replicate]
        rfl
      · rw [List.replicate_succ']
    · rintro rs _ ⟨j, rfl, rfl, hj⟩
      have hj : j = 1 + mn := by simpa using hj
      subst hj
      simp_arith [List.length_map, List.length_range]
      have l6 : S6.length = S.length := st6'.len
      refine for_sp (fun ds env S' => ∃ (B : Store) (Ls : List (List D)) (e10 e12 : Option D), env = [some (.cell n), some (.bl sg), some (.int g), some (.lst (ls.map .str)), some (.int m), some (.lst (names.map .str)), some (.lst sides), e7, e8, some (.int (1 + mn)), e10, some (.lst ((List.range (1 + mn)).map fun i : Nat => .cell (S6.length + i))), e12, none] ∧ S' = B ++ Ls.map CV.lst ∧ St n S B ∧ Ls.length = 1 + mn ∧ (Ls.flatten ++ ds).Perm sides) ?_ ?_ _ _ _ ?_
      · rintro d ds _ _ ⟨B, Ls, e10, e12, rfl, rfl, st7, hL, hp7⟩
        rw [WO_bindn]
        have nB := st7.box.lt
        have lB : B.length = S.length := st7.len
        simp_arith
        refine take_sp (st7.box.app _) (by omega) (by omega) fun x s hx st8 => ?_
        obtain ⟨B2, rfl, st9⟩ := st8.split nB
        have l2 : B2.length = S6.length := by rw [st9.len]; omega
        have hx' : x < Ls.length := by omega
        have e1 : atI ((List.range (1 + mn)).map fun i : Nat => D.cell (S6.length + i)) (x : Int) = some (.cell (B2.length + x)) := atI_nat (by
          rw [List.getElem?_map, List.getElem?_range (by omega), l2]; rfl)
        have e2 : (B2 ++ Ls.map CV.lst)[B2.length + x]? = some (.lst Ls[x]) := by
          rw [at_app, List.getElem?_map, List.getElem?_eq_getElem hx']; rfl
        have hlx : Ls[x].length ≤ 500 := by
          have h1 := len_of_mem (List.getElem_mem hx')
          have h2 := hp7.length_eq
          rw [List.length_append] at h2
          omega
        simp_arith [e1, e2, map_set]
        refine ⟨B2, Ls.set x (Ls[x] ++ [d]), _, _, rfl, rfl, st7.trans st9, by rw [List.length_set]; exact hL, ?_⟩
        have h3 := perm_put hx' d
        refine ((h3.append_right ds).trans ?_).trans hp7
        exact List.perm_middle.symm
      · rintro _ _ ⟨B, Ls, e10, e12, rfl, rfl, st7, hL, hp7⟩
        rw [List.append_nil] at hp7
        have lB : B.length = S6.length := by rw [st7.len]; omega
        have hfm : Fm 4 (2 * g + m) Ls := ⟨by omega, by rw [hp7.length_eq]; exact hsl, fun p hp d hd => hsd d (hp7.mem_iff.mp (List.mem_flatten.mpr ⟨p, hp, hd⟩)), names, hzn, hz8, by rw [namesA_flat]; exact (namesP_perm hp7).trans hsn⟩
        simp_arith
        refine turns_mT (fun i : Nat => D.cell (S6.length + i)) (fun i => D.tup (Ls.getD i [])) (List.range (1 + mn)) (fun i hi => ?_) ?_
        · have hi := List.mem_range.mp hi
          have hi' : i < Ls.length := by omega
          have e2 : (B ++ Ls.map CV.lst)[S6.length + i]? = some (.lst (Ls.getD i [])) := by
            rw [← lB, at_app, List.getElem?_map, List.getD_eq_getElem?_getD, List.getElem?_eq_getElem hi']; rfl
          unfold WO
          simp_arith [e2]
        · rw [← hL, Py.range_getD]
          simp_arith [List.length_map]
          refine WM_retA st7.len st7.kept ?_ (q Ls B hfm st7)
          exact (okV.pl (hfm.okv (by decide) (by omega))).fz (by decide) _ _
      · refine ⟨S6, List.replicate (1 + mn) [], _, none, rfl, by rw [rep_cells], st6', by simp, ?_⟩
        rw [flat_rep]
        exact .refl _
  · exact ⟨names, [], [], _, _, rfl, rfl, rfl, fun _ h => (by cases h), rfl, .refl _, st1⟩
end K24
-- K24U
namespace K24
open Py PySem PySem.Spec PyProof.Rows L2
/-- the store while values are gathered: c the gathered, pl the places -/
structure Nw (n : Nat) (S : Store) (P : D) (c : Nat) (pl F : List D) (N : Nat) (S' : Store) : Prop where
  ex : ∃ B T, S' = B ++ T ∧ St n S B ∧ T[0]? = some (.lst pl) ∧ T[c]? = some (.lst F) ∧ (∀ d ∈ F, okV 6 d = true ∨ ∃ i, d = .cell (S.length + i) ∧ T[i]? = some (.dic false [(.inr "a", P)]))
  c0 : c ≠ 0
  len : F.length ≤ N
theorem Nw.at_ {n : Nat} {S : Store} {P : D} {c : Nat} {pl F : List D} {N : Nat} {S' : Store} (h : Nw n S P c pl F N S') : S'[S.length + c]? = some (.lst F) ∧ S'[S.length]? = some (.lst pl) ∧ Bx n S' := by
  obtain ⟨⟨B, T, rfl, st, h1, h2, h3⟩, _, _⟩ := h
  refine ⟨?_, ?_, st.box.app _⟩
  · rw [← st.len, at_app, h2]
  · rw [← st.len, at_app0, h1]
theorem Nw.add {n : Nat} {S : Store} {P : D} {c : Nat} {pl F : List D} {N : Nat} {S' : Store} (h : Nw n S P c pl F N S') {d : D} (hd : okV 6 d = true) : Nw n S P c pl (F ++ [d]) (N + 1) (S'.set (S.length + c) (.lst (F ++ [d]))) := by
  obtain ⟨⟨B, T, rfl, st, h1, h2, h3⟩, c0, hl⟩ := h
  have hc := (List.getElem?_eq_some_iff.mp h2).1
  refine ⟨⟨B, T.set c (.lst (F ++ [d])), by rw [← st.len, set_app], st, by rw [List.getElem?_set_ne c0]; exact h1, List.getElem?_set_self hc, fun e he => ?_⟩, c0, by simp; omega⟩
  rcases List.mem_append.mp he with he | he
  · rcases h3 e he with h | ⟨i, rfl, hi⟩
    · exact .inl h
    · refine .inr ⟨i, rfl, ?_⟩
      have : c ≠ i := fun q => by subst q; rw [h2] at hi; cases hi
      rw [List.getElem?_set_ne this]
      exact hi
  · have : e = d := by simpa using he
    exact .inl (this ▸ hd)
theorem Nw.st {n : Nat} {S : Store} {P : D} {c : Nat} {pl F : List D} {N : Nat} {S' S2 : Store} (h : Nw n S P c pl F N S') (hn : n < S.length) (s : St n S' S2) : Nw n S P c pl F N S2 := by
  obtain ⟨⟨B, T, rfl, st, h1, h2, h3⟩, c0, hl⟩ := h
  obtain ⟨B2, rfl, st2⟩ := s.split (by rw [st.len]; exact hn)
  exact ⟨⟨B2, T, rfl, st.trans st2, h1, h2, h3⟩, c0, hl⟩
theorem near_sp {n : Nat} {S : Store} (hb : Bx n S) {a b : Nat} {Ls : List (List D)} (hF : Fm a b Ls) (ha : a ≤ 12) (hb' : b ≤ 24) {k : D → Store → Prop} {kx : Exn → Store → Prop}
    (q : ∀ c vs S', S'[c]? = some (.lst vs) → vs.length ≤ 500 → Lg n S S' → (∀ d ∈ vs, Vv n S' d) → k (.cell c) S') : WM (f_law_near [.cell n, .tup (Ls.map .tup)] S) k kx := by
  unfold f_law_near
  rw [WM_runF]
  unfold b_law_near
  have hn := hb.lt
  have hLl := Nat.le_trans hF.len ha
  simp_arith [List.length_map]
  refine for_sp (fun ds env S' => ∃ (pl : List D) (e3 e4 : Option D), env = [some (.cell n), some (.tup (Ls.map .tup)), some (.cell S.length), e3, e4, none, none, none, none, none] ∧ S' = S ++ [.lst pl] ∧ (∀ d ∈ pl, ∃ p k : Nat, d = .tup [.int p, .int k] ∧ ∃ (h : p < Ls.length), k < (Ls[p]).length) ∧ pl.length + 24 * ds.length ≤ 24 * Ls.length ∧ ∀ d ∈ ds, ∃ p : Nat, d = .int p ∧ p < Ls.length) ?_ ?_ _ _ _ ?_
  · rintro d ds _ _ ⟨pl, e3, e4, rfl, rfl, hpl, hl, hds⟩
    rw [WO_bindn]
    obtain ⟨p, rfl, hp⟩ := hds d List.mem_cons_self
    have e1 : atI (Ls.map D.tup) (p : Int) = some (.tup Ls[p]) := atI_nat (by rw [List.getElem?_map, List.getElem?_eq_getElem hp]; rfl)
    have hpb : Ls[p].length ≤ 24 := Nat.le_trans (len_of_mem (List.getElem_mem hp)) (Nat.le_trans hF.tot hb')
    simp_arith [e1]
    rw [intsL_D]
    refine turns_mT (fun i : Nat => D.int (i : Int)) (fun i : Nat => D.tup [.int p, .int i]) (List.range Ls[p].length) (fun i hi => ?_) ?_
    · unfold WO
      simp_arith
    · simp only [List.length_cons] at hl
      simp_arith [List.length_map, List.length_range]
      refine ⟨_, _, _, rfl, rfl, fun d hd => ?_, ?_, fun d hd => hds d (List.mem_cons_of_mem _ hd)⟩
      · rcases List.mem_append.mp hd with hd | hd
        · exact hpl d hd
        · obtain ⟨i, hi, rfl⟩ := List.mem_map.mp hd
          exact ⟨p, i, rfl, hp, List.mem_range.mp hi⟩
      · rw [List.length_append, List.length_map, List.length_range]
        omega
  · rintro _ _ ⟨pl, e3, e4, rfl, rfl, hpl, hl, hds⟩
    have hPs : ∀ p ∈ Ls.map D.tup, okV 3 p = true := (okV.tup (hF.okv (by omega) (by omega))).2
    have addz : ∀ {z : D}, okV 5 z = true → okV 6 (.tup (Ls.map D.tup ++ [z])) = true := fun {z} h => okV_tup (by simp; omega) fun x hx => by
      rcases List.mem_append.mp hx with hx | hx
      · exact okV_mono (hPs x hx) (by decide)
      · have : x = z := by simpa using hx
        exact this ▸ h
    simp_arith
    refine for_sp (fun ds env S' => ∃ (F : List D) (e6 : Option D), env = [some (.cell n), some (.tup (Ls.map .tup)), some (.cell S.length), e3, e4, some (.cell (S.length + 6)), e6, none, none, none] ∧ Nw n S (.tup (Ls.map .tup)) 6 pl F (50 - ds.length) S' ∧ ds.length ≤ 6 ∧ ∀ d ∈ ds, okV 3 d = true) ?_ ?_ _ _ _ ?_
    · rintro d ds _ S1 ⟨F, e6, rfl, nw, l6, hds⟩
      rw [WO_bindn]
      obtain ⟨at1, at2, bx1⟩ := nw.at_
      have hFl := nw.len
      have hd3 := hds d List.mem_cons_self
      have w : ∀ i : Int, okV 4 (.tup [d, .int i]) = true := fun i => okV_tup (by simp) fun x hx => by
        simp only [List.mem_cons, List.mem_nil_iff, or_false] at hx
        rcases hx with rfl | rfl
        · exact hd3
        · rfl
      have hz : okV 5 (.tup [.tup [d, .int 1], .tup [d, .int (-1)]]) = true := okV_tup (by simp) fun x hx => by
        simp only [List.mem_cons, List.mem_nil_iff, or_false] at hx
        rcases hx with rfl | rfl <;> exact w _
      simp_arith [at1]
      have nw2 := nw.add (addz hz)
      simp only [List.length_cons] at l6 nw2
      rw [show 50 - (ds.length + 1) + 1 = 50 - ds.length by omega] at nw2
      exact ⟨_, _, rfl, nw2, by omega, fun d hd => hds d (List.mem_cons_of_mem _ hd)⟩
    · rintro _ S1 ⟨F, e6, rfl, nw, l6, hds⟩
      obtain ⟨at1, at2, bx1⟩ := nw.at_
      have hFl := nw.len
      simp only [List.length_nil] at hFl
      simp_arith [at1]
      have nw := nw.add (d := .tup (Ls.map D.tup ++ [D.tup [D.tup [D.str "q", D.int 1], D.tup [D.str "q", D.int (-1)], D.tup [D.str "q", D.int 1], D.tup [D.str "q", D.int (-1)]]])) (addz (by decide +kernel))
      generalize S1.set (S.length + 6) (.lst (F ++ [.tup (Ls.map D.tup ++ [D.tup [D.tup [D.str "q", D.int 1], D.tup [D.str "q", D.int (-1)], D.tup [D.str "q", D.int 1], D.tup [D.str "q", D.int (-1)]]])])) = S2 at nw ⊢
      generalize F ++ [.tup (Ls.map D.tup ++ [D.tup [D.tup [D.str "q", D.int 1], D.tup [D.str "q", D.int (-1)], D.tup [D.str "q", D.int 1], D.tup [D.str "q", D.int (-1)]]])] = F2 at nw ⊢
      have hF2 := nw.len
      have hpl2 : ∀ d ∈ pl, okV 2 d = true := fun d hd => by
        obtain ⟨p, k, rfl, _⟩ := hpl d hd
        rfl
      have hpll : pl.length ≤ 300 := by
        simp only [List.length_nil] at hl
        omega
      have epl := eqD_cell_nil (S := S2) nw.at_.2.1 hpl2 (by decide) (by omega)
      have fin : ∀ {F : List D} {N : Nat} {S' : Store}, N ≤ 500 → Nw n S (.tup (Ls.map .tup)) 6 pl F N S' → k (.cell (S.length + 6)) S' := fun {F N S'} hN nw => by
        have h0 := nw.at_.1
        have h5 := nw.len
        obtain ⟨⟨B, T, rfl, st, h1, h2, h3⟩, _, _⟩ := nw
        have hlB := st.len
        refine q _ F _ h0 (by omega) ⟨by rw [List.length_append]; omega, st.box.app _, fun j hj hjn => ?_⟩ fun d hd => ?_
        · rw [List.getElem?_append_left (by omega)]
          exact st.oth j hjn
        · rcases h3 d hd with h | ⟨i, rfl, hi⟩
          · exact .inl h
          · exact .inr ⟨_, _, rfl, by omega, by rw [← hlB, at_app]; exact hi, okV_mono (hF.okv (by omega) (by omega)) (by decide)⟩
      simp_arith [epl]
      split
      · rename_i hne
        have hne : pl ≠ [] := by simpa using hne
        have hpos : 1 ≤ pl.length := List.length_pos_iff.mpr hne
        refine for_sp (fun ds env S' => ∃ (F : List D) (e3 e4 e6 e7 e8 e9 : Option D), env = [some (.cell n), some (.tup (Ls.map .tup)), some (.cell S.length), e3, e4, some (.cell (S.length + 6)), e6, e7, e8, e9] ∧ Nw n S (.tup (Ls.map .tup)) 6 pl F (100 - 10 * ds.length) S' ∧ ds.length ≤ 4) ?_ ?_ _ _ _ ?_
        · rintro d ds _ S3 ⟨F3, e3, e4, e6, e7, e8, e9, rfl, nw3, hdl⟩
          rw [WO_bindn]
          obtain ⟨at1, at2, bx3⟩ := nw3.at_
          simp_arith [at2]
          refine take_sp bx3 (by omega) (by omega) fun x S4 hx st4 => ?_
          have nw4 := nw3.st hn st4
          have hx' : x < pl.length := by omega
          obtain ⟨p, k, epk, hp, hk⟩ := hpl pl[x] (List.getElem_mem hx')
          have e1 : atI pl (x : Int) = some (.tup [.int p, .int k]) := by rw [← epk]; exact atI_nat (List.getElem?_eq_getElem hx')
          have e2 : atI (Ls.map D.tup) (p : Int) = some (.tup Ls[p]) := atI_nat (by rw [List.getElem?_map, List.getElem?_eq_getElem hp]; rfl)
          have e3 : atI Ls[p] (k : Int) = some Ls[p][k] := atI_nat (List.getElem?_eq_getElem hk)
          obtain ⟨ok2, sb2⟩ := hF.ok Ls[p] (List.getElem_mem hp) Ls[p][k] (List.getElem_mem hk)
          obtain ⟨s0, hs0, oks0⟩ := first_of sb2 ok2
          have at4 := nw4.at_.2.1
          simp_arith [at4, e1, e2, e3, hs0]
          have hLp : Ls[p].length ≤ 24 := Nat.le_trans (len_of_mem (List.getElem_mem hp)) (Nat.le_trans hF.tot hb')
          have okp : ∀ d ∈ Ls[p], okV 2 d = true := fun d hd => (hF.ok Ls[p] (List.getElem_mem hp) d hd).1
          have put : ∀ {z : D}, okV 5 z = true → okV 6 (.tup ((Ls.map D.tup).take p ++ (z :: (Ls.map D.tup).drop (p + 1)))) = true := fun {z} hz => okV_tup (by simp; omega) fun x hx => by
            rcases List.mem_append.mp hx with hx | hx
            · exact okV_mono (hPs x (List.mem_of_mem_take hx)) (by decide)
            · rcases List.mem_cons.mp hx with rfl | hx
              · exact hz
              · exact okV_mono (hPs x (List.mem_of_mem_drop hx)) (by decide)
          refine for_sp (fun es env S' => ∃ (F : List D) (e9 : Option D), env = [some (.cell n), some (.tup (Ls.map .tup)), some (.cell S.length), some (.int p), some (.int k), some (.cell (S.length + 6)), e6, some d, some Ls[p][k], e9] ∧ Nw n S (.tup (Ls.map .tup)) 6 pl F (100 - 10 * (ds.length + 1) + 6 - es.length) S' ∧ es.length ≤ 6 ∧ ∀ e ∈ es, ∃ os : List D, e = .tup os ∧ os.length ≤ 2 ∧ ∀ o ∈ os, okV 4 o = true) ?_ ?_ _ _ _ ?_
          · rintro e es _ S5 ⟨F5, e9, rfl, nw5, hel, hes⟩
            rw [WO_bindn]
            obtain ⟨os, rfl, ho1, ho2⟩ := hes e List.mem_cons_self
            obtain ⟨b1, b2, b3⟩ := nw5.at_
            have hl5 := nw5.len
            have okn : okV 5 (.tup (Ls[p].take k ++ (os ++ Ls[p].drop (k + 1)))) = true := okV_tup (by simp; omega) fun x hx => by
              rcases List.mem_append.mp hx with hx | hx
              · exact okV_mono (okp x (List.mem_of_mem_take hx)) (by decide)
              · rcases List.mem_append.mp hx with hx | hx
                · exact ho2 x hx
                · exact okV_mono (okp x (List.mem_of_mem_drop hx)) (by decide)
            have l5 : F5.length ≤ 200 := by omega
            simp_arith [b1, e2, cut_to, cut_from1]
            have nw6 := nw5.add (put okn)
            simp only [List.length_cons] at hel nw6
            rw [show 100 - 10 * (ds.length + 1) + 6 - (es.length + 1) + 1 = 100 - 10 * (ds.length + 1) + 6 - es.length by omega] at nw6
            exact ⟨_, _, rfl, nw6, by omega, fun e he => hes e (List.mem_cons_of_mem _ he)⟩
          · rintro _ S5 ⟨F5, e9, rfl, nw5, hel, hes⟩
            obtain ⟨b1, b2, b3⟩ := nw5.at_
            have hl5 := nw5.len
            have okn : okV 5 (.lst Ls[p]) = true := okV_lst (by omega) fun x hx => okV_mono (okp x hx) (by decide)
            have l5 : F5.length ≤ 200 := by omega
            simp_arith [b1, e2, cut_to, cut_from1]
            have nw6 := nw5.add (put okn)
            simp only [List.length_cons, List.length_nil] at hdl
            refine ⟨_, _, _, _, _, _, _, rfl, ⟨nw6.ex, nw6.c0, ?_⟩, by omega⟩
            have := nw6.len
            simp only [List.length_nil] at this
            omega
          · refine ⟨F3, _, rfl, ⟨nw4.ex, nw4.c0, ?_⟩, by simp, ?_⟩
            · have := nw4.len
              simp at this ⊢
              omega
            · have o1 : ∀ i : Int, okV 4 (.tup [s0, .int i]) = true := fun i => okV_tup (by simp) fun x hx => by
                simp only [List.mem_cons, List.mem_nil_iff, or_false] at hx
                rcases hx with rfl | rfl
                · exact okV_mono oks0 (by decide)
                · rfl
              have o2 : okV 4 Ls[p][k] = true := okV_mono ok2 (by decide)
              have one : ∀ {o : D}, okV 4 o = true → ∃ os : List D, D.tup [o] = .tup os ∧ os.length ≤ 2 ∧ ∀ o ∈ os, okV 4 o = true := fun {o} h => ⟨[o], rfl, by simp, fun x hx => by
                have : x = o := by simpa using hx
                exact this ▸ h⟩
              intro e he
              simp only [List.mem_cons, List.mem_nil_iff, or_false] at he
              rcases he with rfl | rfl | rfl | rfl | rfl | rfl
              · exact ⟨[], rfl, by simp, fun _ h => by cases h⟩
              · exact ⟨_, rfl, by simp, fun x hx => by
                  have : x = Ls[p][k] := by simpa using hx
                  exact this ▸ o2⟩
              · exact one (by decide +kernel)
              · exact one (o1 1)
              · exact one (o1 (-1))
              · exact one (okV_lst (by simp) fun x hx => by
                  have : x = Ls[p][k] := by simpa using hx
                  exact this ▸ okV_mono ok2 (by decide))
        · rintro _ S3 ⟨F3, e3, e4, e6, e7, e8, e9, rfl, nw3, hdl⟩
          simp_arith
          exact fin (by omega) nw3
        · refine ⟨F2, _, _, _, _, _, _, rfl, ⟨nw.ex, nw.c0, ?_⟩, by simp [intsL_len]⟩
          simp [intsL_len]
          omega
      · rw [show (intsL 0 0).map D.int = [] from rfl, WS_forn]
        simp_arith
        exact fin (by omega) nw
    · refine ⟨_, _, rfl, ⟨⟨S, _, rfl, St.refl hb, rfl, rfl, ?_⟩, by decide, by simp⟩, by simp, ?_⟩
      · have sub : ∀ {xs : List D}, xs.length ≤ 60 → (∀ x ∈ xs, x ∈ Ls.map D.tup) → okV 6 (.tup xs) = true := fun l h => okV_tup l fun x hx => okV_mono (hPs x (h x hx)) (by decide)
        intro d hd
        simp only [List.mem_cons, List.mem_nil_iff, or_false] at hd
        repeat' (first
          | (rcases hd with rfl | hd
             · first
               | exact .inl (addz (by decide +kernel))
               | exact .inl (by decide +kernel)
               | exact .inr ⟨_, rfl, rfl⟩
               | exact .inl (okV_lst (by rw [List.length_map]; omega) fun x hx => okV_mono (hPs x hx) (by decide))
               | exact .inl (sub (by rw [List.length_reverse, List.length_map]; omega) fun x hx => List.mem_reverse.mp hx)
               | exact .inl (sub (by unfold Py.cutD; simp; omega) fun x hx => List.mem_of_mem_drop (List.mem_of_mem_take hx))
             ))
      · intro d hd
        simp only [List.mem_cons, List.mem_nil_iff, or_false] at hd
        rcases hd with rfl | rfl | rfl | rfl | rfl | rfl <;> decide +kernel
  · refine ⟨[], _, _, rfl, rfl, (fun _ h => by cases h), ?_, fun d hd => ?_⟩
    · simp [intsL_len]
    · obtain ⟨i, hi, rfl⟩ := List.mem_map.mp hd
      have := mem_intsL.mp hi
      exact ⟨i.toNat, by congr 1; omega, by omega⟩
end K24
-- K24V
namespace K24
open Py PySem PySem.Spec PyProof.Rows L2
theorem rep5 : (List.replicate (Int.toNat 5) [D.bl false]).flatten = [.bl false, .bl false, .bl false, .bl false, .bl false] := rfl
theorem equal_sp {S : Store} {P O : D} (hP : okV 6 P = true) (hPb : polysB P = true) (hO : okV 6 O = true) (hOb : polysB O = true) {b : Bool} {k : D → Store → Prop} {kx : Exn → Store → Prop} (q : k (.bl true) S) : WM (f_law_equal_right [P, O, .bl b] S) k kx := by
  unfold f_law_equal_right
  rw [WM_runF]
  unfold b_law_equal_right
  have hv : Val S P := .ok _ hP (by obtain ⟨ps, rfl⟩ := polysB_tup hPb; rfl)
  have hw : Val S O := .ok _ hO (by obtain ⟨ps, rfl⟩ := polysB_tup hOb; rfl)
  obtain ⟨ps, rfl⟩ := polysB_tup hPb
  obtain ⟨os, rfl⟩ := polysB_tup hOb
  have e1 : ∀ S, eqM "Film" f_Film__eq_ (filmD (.tup ps)) (.tup ps) S = .ok (.bl false) S := fun S => eqM_other rfl
  have e2 : ∀ S, eqM "Film" f_Film__eq_ (filmD (.tup ps)) .non S = .ok (.bl false) S := fun S => eqM_other rfl
  have e3 : ∀ S x, eqM "Film" f_Film__eq_ (filmD (.tup ps)) (.str x) S = .ok (.bl false) S := fun S x => eqM_other rfl
  have e4 : ∀ S xs, eqM "Film" f_Film__eq_ (filmD (.tup ps)) (.lst xs) S = .ok (.bl false) S := fun S xs => eqM_other rfl
  have e5 : ∀ S xs, eqM "Film" f_Film__eq_ (filmD (.tup ps)) (.tup xs) S = .ok (.bl false) S := fun S xs => eqM_other rfl
  have rf : eqB (.tup ps) (.tup ps) = true := eqB_refl hP
  have eo : ∀ S, eqD S (.tup ps) (.tup os) = some (eqB (.tup ps) (.tup os)) := fun S => eqD_ok S hP hO (by decide) (by decide)
  have cm : eqB (.tup os) (.tup ps) = eqB (.tup ps) (.tup os) := eqB_comm _ _
  simp_arith [made_ok hv hPb, made_ok hw hOb, a21, eqM_film hP hP, eqM_film hP hO, eqM_film hO hP, WS_forc, WS_forn, WO_bindn, e2, e3, e4, e5, rf, eo, cm, rep5]
  generalize hT : [D.bl true, D.bl (eqB (D.tup ps) (D.tup os)), D.bl (eqB (D.tup ps) (D.tup os)), D.bl false, D.bl false, D.bl false, D.bl false, D.bl false] = T
  have hb : ∀ x ∈ T, ∃ c, x = .bl c := fun x hx => by
    rw [← hT] at hx
    simp only [List.mem_cons, List.mem_nil_iff, or_false] at hx
    rcases hx with rfl | rfl | rfl | rfl | rfl | rfl | rfl | rfl <;> exact ⟨_, rfl⟩
  have hl : T.length = 8 := by rw [← hT]; rfl
  have sa := same_sp (S := S ++ [.lst T]) (m := 40) (a := .cell S.length) (b := .lst T) (.lst (.inr ⟨_, rfl, by rw [at_app0] <;> rfl⟩) (.inl rfl) rfl (by omega) fun i x y e1 e2 => by
    rw [e1] at e2
    cases e2
    obtain ⟨c, rfl⟩ := hb x (List.mem_of_getElem? e1)
    exact .bl c)
  simp_arith [sa]
  exact WM_retA rfl Kept.rfl' rfl q
end K24
-- K24W
namespace K24
open Py PySem PySem.Spec PyProof.Rows L2
structure Gr (Ls : List (List D)) : Prop where
  fm : Fm 12 40 Ls
  len : Ls.length = 12
  each : ∀ p ∈ Ls, p.length = 24 ∨ p.length ≤ 2
  wide : ∃ p ∈ Ls, p.length = 24
theorem perm_tups {ys : List D} {xs : List (List D)} (h : ys.Perm (xs.map D.tup)) : ∃ zs : List (List D), ys = zs.map D.tup ∧ zs.Perm xs := by
  refine ⟨ys.map itemsT, ?_, ?_⟩
  · rw [List.map_map]
    have : ∀ d ∈ ys, (D.tup ∘ itemsT) d = d := fun d hd => by
      obtain ⟨x, _, rfl⟩ := List.mem_map.mp (h.mem_iff.mp hd)
      rfl
    rw [List.map_congr_left this, List.map_id']
  · have h2 := h.map itemsT
    rw [List.map_map] at h2
    have : xs.map (itemsT ∘ D.tup) = xs := List.map_id xs
    rwa [this] at h2
def chunks (sides : List D) : List (List D) := sides.take 24 :: (List.range 11).map fun k => (sides.drop (24 + 2 * k)).take 2
theorem chunks_flat {sides : List D} (h : sides.length ≤ 46) : (chunks sides).flatten = sides := by
  have key : ∀ (m : Nat) (xs : List D), xs.length ≤ 2 * m → ((List.range m).map fun k => (xs.drop (2 * k)).take 2).flatten = xs := by
    intro m
    induction m with
    | zero => intro xs hl; have : xs = [] := List.eq_nil_of_length_eq_zero (by omega); subst this; rfl
    | succ m ih =>
      intro xs hl
      rw [List.range_succ_eq_map, List.map_cons, List.flatten_cons, List.map_map]
      have := ih (xs.drop 2) (by rw [List.length_drop]; omega)
      have e : (List.range m).map ((fun k => (xs.drop (2 * k)).take 2) ∘ Nat.succ) = (List.range m).map fun k => ((xs.drop 2).drop (2 * k)).take 2 := by
        refine List.map_congr_left fun k _ => ?_
        show (xs.drop (2 * (k + 1))).take 2 = _
        rw [List.drop_drop, show 2 + 2 * k = 2 * (k + 1) by omega]
      rw [e, this]
      exact List.take_append_drop 2 xs
  unfold chunks
  rw [List.flatten_cons]
  have := key 11 (sides.drop 24) (by rw [List.length_drop]; omega)
  have e : (List.range 11).map (fun k => (sides.drop (24 + 2 * k)).take 2) = (List.range 11).map fun k => ((sides.drop 24).drop (2 * k)).take 2 := by
    refine List.map_congr_left fun k _ => ?_
    rw [List.drop_drop]
  rw [e, this]
  exact List.take_append_drop 24 sides
theorem great_sp {n : Nat} {S : Store} (hb : Bx n S) {sg : Bool} {k : D → Store → Prop} {kx : Exn → Store → Prop} (q : ∀ Ls S', Gr Ls → St n S S' → k (.tup (Ls.map .tup)) S') : WM (f_law_great [.cell n, .bl sg] S) k kx := by
  unfold f_law_great
  rw [WM_runF]
  unfold b_law_great
  simp_arith
  refine mixed_sp hb (xs := nm8.map D.str) (.inl rfl) (by decide) (fun d hd => ?_) fun ys S1 hy st1 => ?_
  · obtain ⟨x, _, rfl⟩ := List.mem_map.mp hd
    exact Pl.str x
  obtain ⟨names, rfl, hz⟩ := perm_strs hy
  simp_arith
  have hzn : names.Nodup := hz.symm.nodup nm8_ok.1
  have hzb : ∀ x ∈ names, nmB x = true := fun x hx => nm8_ok.2 x (hz.mem_iff.mp hx)
  have hzl : names.length = 8 := hz.length_eq
  refine for_sp (fun ds env S' => ∃ (rest done : List Str) (ss : List D) (e4 e5 : Option D), ds = rest.map D.str ∧ names = done ++ rest ∧ env = [some (.cell n), some (.bl sg), some (.lst (names.map .str)), some (.lst ss), e4, e5, none, none, none] ∧ (∀ d ∈ ss, okV 2 d = true ∧ sideB d = true) ∧ ss.length = 2 * done.length ∧ (namesP ss).Perm (done ++ done) ∧ St n S S') ?_ ?_ _ _ _ ?_
  · rintro d ds _ S2 ⟨rest, done, ss, e7, e8, hds, hn, rfl, hok, hl, hp, st2⟩
    cases rest with
    | nil => cases hds
    | cons x rest =>
    obtain ⟨rfl, rfl⟩ := List.cons.inj hds
    rw [WO_bindn]
    simp_arith
    refine take_sp st2.box (by omega) (by omega) fun y S3 hy st3 => ?_
    have hx : nmB x = true := hzb x (by rw [hn]; simp)
    have hnl : done.length ≤ names.length := by rw [hn]; simp
    have key : ∀ {e8 : Option D} {S4 : Store} {i j : Int}, (i = 1 ∨ i = -1) → (j = 1 ∨ j = -1) → St n S3 S4 → ∃ (rest' done' : List Str) (ss' : List D) (e7 e8' : Option D), rest.map D.str = rest'.map D.str ∧ names = done' ++ rest' ∧ [some (D.cell n), some (D.bl sg), some (D.lst (names.map .str)), some (D.lst (ss ++ [D.tup [.str x, .int i], D.tup [.str x, .int j]])), some (D.str x), e8, none, none, none] = [some (D.cell n), some (D.bl sg), some (D.lst (names.map .str)), some (D.lst ss'), e7, e8', none, none, none] ∧ (∀ d ∈ ss', okV 2 d = true ∧ sideB d = true) ∧ ss'.length = 2 * done'.length ∧ (namesP ss').Perm (done' ++ done') ∧ St n S S4 := fun {e8 S4 i j} hi hj st4 => by
      refine ⟨rest, done ++ [x], _, _, _, rfl, by rw [hn, List.append_assoc]; rfl, rfl, fun d hd => ?_, by simp; omega, ?_, st2.trans (st3.trans st4)⟩
      · rcases List.mem_append.mp hd with hd | hd
        · exact hok d hd
        · simp only [List.mem_cons, List.mem_nil_iff, or_false] at hd
          rcases hd with rfl | rfl
          · exact side_ok2 hx hi
          · exact side_ok2 hx hj
      · rw [namesP_app]
        show (namesP ss ++ [x, x]).Perm _
        refine (hp.append_right [x, x]).trans ?_
        have e1 : done ++ [x] ++ (done ++ [x]) = done ++ (x :: (done ++ [x])) := by simp
        have e2 : done ++ done ++ [x, x] = done ++ (done ++ [x] ++ [x]) := by simp
        rw [e1, e2]
        exact (List.perm_append_comm (l₁ := done ++ [x]) (l₂ := [x])).append_left done
    have way : ∀ y : Nat, (y : Int) < 2 → (1 - 2 * (y : Int) = 1 ∨ 1 - 2 * (y : Int) = -1) := fun y h => by omega
    have way0 : ∀ y : Nat, (y : Int) < 2 → (0 - (1 - 2 * (y : Int)) = 1 ∨ 0 - (1 - 2 * (y : Int)) = -1) := fun y h => by omega
    cases sg
    · simp_arith
      refine take_sp st3.box (by omega) (by omega) fun z S4 hz' st4 => ?_
      simp_arith
      by_cases hz0 : (z : Int) = 0
      · simp_arith [hz0]
        exact key (way y hy) (way0 y hy) st4
      · simp_arith [hz0]
        exact key (way y hy) (way y hy) st4
    · simp_arith
      exact key (way y hy) (way0 y hy) (St.refl st3.box)
  · rintro _ S2 ⟨rest, done, ss, e7, e8, hds, hn, rfl, hok, hl, hp, st2⟩
    have hr : rest = [] := by cases rest with | nil => rfl | cons a b => cases hds
    subst hr
    rw [List.append_nil] at hn
    subst hn
    simp_arith
    have abcn : ∀ x ∈ (["a", "b", "c"] : List Str), nmB x = true := by decide +kernel
    refine letters_sp (S0 := S) (ls := ["a", "b", "c"]) abcn (by decide) (by decide) (env := []) (fun d S5 b5 => ?_) st2 fun ws S5 hws lws st5 => ?_
    · unfold WO
      simp_arith
      refine take_sp b5 (by omega) (by omega) fun x S6 hx st6 => ?_
      have hx' : x < (["a", "b", "c"] : List Str).length := by
        show x < 3
        omega
      have e : atI [D.str "a", D.str "b", D.str "c"] (x : Int) = some (.str (["a", "b", "c"] : List Str)[x]) := atI_nat (xs := (["a", "b", "c"] : List Str).map D.str) (by rw [List.getElem?_map, List.getElem?_eq_getElem hx']; rfl)
      simp_arith [e]
      exact ⟨_, List.getElem_mem _, rfl, st6⟩
    rw [List.length_map, intsL_len] at lws
    have lw : ws.length = 24 := by simpa using lws
    simp_arith
    refine mixed_sp st5.box (xs := ss ++ ws.map D.str) (.inl rfl) (by simp; omega) (fun d hd => ?_) fun sides S6 hs st6 => ?_
    · rcases List.mem_append.mp hd with hd | hd
      · exact (okV.pl (hok d hd).1).mono (by decide)
      · obtain ⟨x, _, rfl⟩ := List.mem_map.mp hd
        exact Pl.str x
    have hsd : ∀ d ∈ sides, okV 2 d = true ∧ sideB d = true := fun d hd => by
      rcases List.mem_append.mp (hs.mem_iff.mp hd) with hd | hd
      · exact hok d hd
      · obtain ⟨x, hx, rfl⟩ := List.mem_map.mp hd
        exact str_ok2 (abcn x (hws x hx))
    have hsl : sides.length = 40 := by
      rw [hs.length_eq, List.length_append, List.length_map]
      omega
    have hsn : (namesP sides).Perm (names ++ names) := by
      refine (namesP_perm hs).trans ?_
      rw [namesP_app, namesP_strs, List.append_nil]
      exact hp
    have st6' := st5.trans st6
    have hn6 := st6'.box.lt
    have ct : Py.cutD sides none (some (24 : Int)) = sides.take 24 := cut_to (k := 24)
    simp_arith [ct]
    let chk : Nat → List D := fun k => (sides.drop (24 + 2 * k)).take 2
    refine for_sp (fun ds env S' => ∃ (j : Nat) (e4 e5 e6 e8 : Option D), ds = (List.range' j (11 - j)).map (fun i : Nat => D.int i) ∧ j ≤ 11 ∧ env = [some (.cell n), some (.bl sg), some (.lst (names.map .str)), some (.lst sides), e4, e5, e6, some (.cell S6.length), e8] ∧ S' = S6 ++ [.lst ((sides.take 24 :: (List.range j).map chk).map D.tup)]) ?_ ?_ _ _ _ ?_
    · rintro d ds _ _ ⟨j, e4, e5, e6, e8, hds, hj, rfl, rfl⟩
      have hj' : j < 11 := by
        rcases Nat.lt_or_ge j 11 with h | h
        · exact h
        · rw [show 11 - j = 0 by omega] at hds
          cases hds
      rw [show 11 - j = (11 - (j + 1)) + 1 by omega, List.range'_succ, List.map_cons] at hds
      obtain ⟨rfl, rfl⟩ := List.cons.inj hds
      rw [WO_bindn]
      have e1 : (24 : Int) + 2 * (j : Int) = ((24 + 2 * j : Nat) : Int) := by omega
      have e2 : (26 : Int) + 2 * (j : Int) = ((26 + 2 * j : Nat) : Int) := by omega
      have e3 : 26 + 2 * j - (24 + 2 * j) = 2 := by omega
      have hch : ((sides.take 24 :: (List.range j).map chk).map D.tup).length ≤ 20 := by
        rw [List.length_map, List.length_cons, List.length_map, List.length_range]; omega
      simp_arith [e1, e2, cut_mid, e3]
      refine ⟨j + 1, _, _, _, _, rfl, by omega, rfl, ?_⟩
      rw [List.range_succ, List.map_append]
      simp [chk]
    · rintro _ _ ⟨j, e4, e5, e6, e8, hds, hj, rfl, rfl⟩
      have hj' : j = 11 := by
        have := congrArg List.length hds
        rw [List.length_map, List.length_range'] at this
        simp only [List.length_nil] at this
        omega
      subst hj'
      have hch : sides.take 24 :: (List.range 11).map chk = chunks sides := rfl
      rw [hch]
      have hfl := chunks_flat (sides := sides) (by omega)
      have hcl : (chunks sides).length = 12 := rfl
      have hmem : ∀ p ∈ chunks sides, ∀ d ∈ p, d ∈ sides := fun p hp d hd => by
        have : d ∈ (chunks sides).flatten := List.mem_flatten.mpr ⟨p, hp, hd⟩
        rwa [hfl] at this
      simp_arith
      refine mixed_sp (st6'.box.app _) (d := .cell S6.length) (xs := (chunks sides).map D.tup) (.inr ⟨_, rfl, by rw [at_app0] <;> rfl⟩) (by rw [List.length_map, hcl]; decide) (fun d hd => ?_) fun ys S7 hy7 st7 => ?_
      · obtain ⟨p, hp, rfl⟩ := List.mem_map.mp hd
        have hpl : p.length ≤ 40 := by
          have := len_of_mem hp
          rw [hfl, hsl] at this
          exact this
        refine Pl.tup (m := 124) (fun d hd => okV.pl (hsd d (hmem p hp d hd)).1) (by omega)
      · obtain ⟨Ls, rfl, hL⟩ := perm_tups hy7
        have hfp : Ls.flatten.Perm sides := by
          have := hL.flatten
          rwa [hfl] at this
        have gr : Gr Ls := by
          refine ⟨⟨by rw [hL.length_eq]; exact Nat.le_of_eq hcl, by rw [hfp.length_eq]; omega, fun p hp d hd => hsd d (hmem p (hL.mem_iff.mp hp) d hd), names, hzn, by omega, by rw [namesA_flat]; exact (namesP_perm hfp).trans hsn⟩, by rw [hL.length_eq]; rfl, fun p hp => ?_, ?_⟩
          · have hp' := hL.mem_iff.mp hp
            rcases List.mem_cons.mp hp' with rfl | hp'
            · left
              rw [List.length_take]; omega
            · right
              obtain ⟨j, _, rfl⟩ := List.mem_map.mp hp'
              rw [List.length_take]; omega
          · exact ⟨sides.take 24, hL.mem_iff.mpr List.mem_cons_self, by rw [List.length_take]; omega⟩
        obtain ⟨S8, rfl, st8⟩ := st7.split hn6
        have st := st6'.trans st8
        simp_arith
        refine WM_retA st.len st.kept ?_ (q Ls S8 gr st)
        exact (okV.pl (gr.fm.okv (by decide) (by decide))).fz (by decide) _ _
    · exact ⟨0, _, _, _, none, rfl, by omega, rfl, rfl⟩
  · exact ⟨names, [], [], _, _, rfl, rfl, rfl, fun _ h => (by cases h), rfl, .refl _, st1⟩
end K24
-- K24X
namespace K24
open Py PySem PySem.Spec PyProof.Rows L2
theorem filt_first {l : List Nat} {p : Nat → Bool} (h : ∃ x ∈ l, p x = true) : ∃ w ∈ l, p w = true ∧ atI ((l.filter p).map fun i : Nat => D.int (i : Int)) 0 = some (.int (w : Int)) := by
  obtain ⟨x, hx, hp⟩ := h
  have : x ∈ l.filter p := List.mem_filter.mpr ⟨hx, hp⟩
  cases e : l.filter p with
  | nil => rw [e] at this; cases this
  | cons w r =>
    have hw : w ∈ l.filter p := by rw [e]; exact List.mem_cons_self
    obtain ⟨h1, h2⟩ := List.mem_filter.mp hw
    exact ⟨w, h1, h2, atI_nat (j := 0) rfl⟩
def n9 : List Str := ["a", "b", "c", "d", "e", "f", "g", "h", "i"]
def nn (x : Str) : D := .tup [.str x, .int 1]
theorem ix9 : ∀ i : Nat, i < 9 → opIx (.str "abcdefghi") (.int (i : Int)) = M.pure (.str (n9.getD i ""))
  | 0, _ => rfl
  | 1, _ => rfl
  | 2, _ => rfl
  | 3, _ => rfl
  | 4, _ => rfl
  | 5, _ => rfl
  | 6, _ => rfl
  | 7, _ => rfl
  | 8, _ => rfl
theorem nine_eq : ((List.range 9).map fun i : Nat => D.tup [.str (n9.getD i ""), .int 1]) = n9.map nn := rfl
theorem limits_sp {n : Nat} {S : Store} (hb : Bx n S) {b : Bool} {k : D → Store → Prop} {kx : Exn → Store → Prop} (q : ∀ S', St n S S' → k (.bl true) S') : WM (f_law_limits_right [.cell n, .bl b] S) k kx := by
  unfold f_law_limits_right
  rw [WM_runF]
  unfold b_law_limits_right
  simp_arith
  refine take_sp hb (by omega) (by omega) fun x S1 hx st1 => ?_
  simp_arith
  refine great_sp st1.box fun Ls S2 gr st2 => ?_
  have st := st1.trans st2
  have hl := gr.len
  have hPs : ∀ p ∈ Ls.map D.tup, okV 3 p = true := (okV.tup (gr.fm.okv (by decide) (by decide))).2
  have e12 : (intsL 0 12).map D.int = (List.range 12).map fun i : Nat => D.int (i : Int) := intsL_D (n := 12)
  simp_arith
  rw [e12]
  have ix : ∀ i : Nat, i < 12 → atI (Ls.map D.tup) (i : Int) = some (.tup (Ls.getD i [])) := fun i hi => atI_nat (by
    rw [List.getElem?_map, List.getElem?_eq_getElem (by omega), List.getD_eq_getElem?_getD, List.getElem?_eq_getElem (by omega)]; rfl)
  refine turns_map (fun i : Nat => D.int (i : Int)) (fun i => decide ((Ls.getD i []).length = 24)) (fun i : Nat => D.int (i : Int)) (List.range 12) (fun i hi => ?_) ?_
  · have hi := List.mem_range.mp hi
    have i1 : decide (((Ls.getD i []).length : Int) = 24) = decide ((Ls.getD i []).length = 24) := decide_eq_decide.mpr (by omega)
    unfold WO
    simp_arith [ix i hi, i1]
    cases decide ((Ls.getD i []).length = 24) <;> simp_arith
  obtain ⟨w, hw, hw24, ew⟩ := filt_first (l := List.range 12) (p := fun i => decide ((Ls.getD i []).length = 24)) (by
    obtain ⟨p, hp, h24⟩ := gr.wide
    obtain ⟨i, hi, rfl⟩ := List.mem_iff_getElem.mp hp
    refine ⟨i, List.mem_range.mpr (by omega), ?_⟩
    rw [List.getD_eq_getElem?_getD, List.getElem?_eq_getElem hi]
    exact decide_eq_true h24)
  have hw := List.mem_range.mp hw
  have lf : (((List.range 12).filter fun i => decide ((Ls.getD i []).length = 24)).map fun i : Nat => D.int (i : Int)).length ≤ 12 := by
    rw [List.length_map]
    exact Nat.le_trans (List.length_filter_le _ _) (by simp)
  simp_arith [fits_le' (Nat.le_trans lf (by decide)), ew]
  rw [e12]
  refine turns_map (fun i : Nat => D.int (i : Int)) (fun i => !decide (i = w)) (fun i : Nat => D.int (i : Int)) (List.range 12) (fun i hi => ?_) ?_
  · have i1 : decide ((i : Int) = (w : Int)) = decide (i = w) := decide_eq_decide.mpr (by omega)
    unfold WO
    simp_arith [i1]
    cases decide (i = w) <;> simp_arith
  obtain ⟨r, hr, _, er⟩ := filt_first (l := List.range 12) (p := fun i => !decide (i = w)) (by
    by_cases h0 : w = 0
    · exact ⟨1, by simp, by simp [h0]⟩
    · exact ⟨0, by simp, by simp; omega⟩)
  have hr := List.mem_range.mp hr
  have lr : (((List.range 12).filter fun i => !decide (i = w)).map fun i : Nat => D.int (i : Int)).length ≤ 12 := by
    rw [List.length_map]
    exact Nat.le_trans (List.length_filter_le _ _) (by simp)
  have e9 : (intsL 0 9).map D.int = (List.range 9).map fun i : Nat => D.int (i : Int) := intsL_D (n := 9)
  have hlw : ∀ i, (Ls.getD i []).length ≤ 24 := fun i => by
    by_cases hi : i < Ls.length
    · rw [List.getD_eq_getElem?_getD, List.getElem?_eq_getElem hi]
      rcases gr.each _ (List.getElem_mem hi) with h | h
      · exact Nat.le_of_eq h
      · exact Nat.le_trans h (by decide)
    · rw [List.getD_eq_getElem?_getD, List.getElem?_eq_none (by omega)]
      decide
  have hlw1 := hlw w
  have hlr1 := hlw r
  simp_arith [fits_le' (Nat.le_trans lr (by decide)), er, ix w hw, ix r hr, cut_to, cut_from1]
  have hval : ∀ d ∈ [D.tup (Ls.map D.tup), D.tup (Ls.map D.tup ++ [D.tup []]),
                D.tup ((Ls.map D.tup).take w ++ D.tup (Ls.getD w [] ++ [D.str "a"]) :: (Ls.map D.tup).drop (w + 1)),
                D.tup ((Ls.map D.tup).take r ++ D.tup (Ls.getD r [] ++ [D.str "a"]) :: (Ls.map D.tup).drop (r + 1)),
                D.tup [D.tup (List.replicate (Int.toNat 24) [D.str "a"]).flatten, D.tup (List.replicate (Int.toNat 16) [D.str "a"]).flatten],
                D.tup [D.tup (List.replicate (Int.toNat 25) [D.str "a"]).flatten],
                D.tup [D.tup (List.replicate (Int.toNat 24) [D.str "a"]).flatten, D.tup (List.replicate (Int.toNat 17) [D.str "a"]).flatten],
                D.tup (List.replicate (Int.toNat 12) [D.tup []]).flatten,
                D.tup (List.replicate (Int.toNat 13) [D.tup []]).flatten], okV 6 d = true ∧ ∃ xs, d = .tup xs := by
    have put : ∀ i, i < 12 → okV 6 (D.tup ((Ls.map D.tup).take i ++ D.tup (Ls.getD i [] ++ [D.str "a"]) :: (Ls.map D.tup).drop (i + 1))) = true := fun i hi => by
      have hi1 := hlw i
      refine okV_tup (by simp; omega) fun x hx => ?_
      rcases List.mem_append.mp hx with hx | hx
      · exact okV_mono (hPs x (List.mem_of_mem_take hx)) (by decide)
      · rcases List.mem_cons.mp hx with rfl | hx
        · refine okV_tup (by rw [List.length_append, List.length_cons, List.length_nil]; omega) fun y hy => ?_
          rcases List.mem_append.mp hy with hy | hy
          · have hm : Ls.getD i [] ∈ Ls := by
              rw [List.getD_eq_getElem?_getD, List.getElem?_eq_getElem (show i < Ls.length by omega)]
              exact List.getElem_mem _
            exact okV_mono (gr.fm.ok _ hm y hy).1 (by decide)
          · have : y = .str "a" := by simpa using hy
            subst this
            decide +kernel
        · exact okV_mono (hPs x (List.mem_of_mem_drop hx)) (by decide)
    intro d hd
    simp only [List.mem_cons, List.mem_nil_iff, or_false] at hd
    rcases hd with rfl | rfl | rfl | rfl | rfl | rfl | rfl | rfl | rfl
    · exact ⟨okV_mono (gr.fm.okv (by decide) (by decide)) (by decide), _, rfl⟩
    · refine ⟨okV_tup (by simp; omega) fun x hx => ?_, _, rfl⟩
      rcases List.mem_append.mp hx with hx | hx
      · exact okV_mono (hPs x hx) (by decide)
      · have : x = .tup [] := by simpa using hx
        subst this
        rfl
    · exact ⟨put w hw, _, rfl⟩
    · exact ⟨put r hr, _, rfl⟩
    all_goals exact ⟨by decide +kernel, _, rfl⟩
  have hvl : ([D.tup (Ls.map D.tup), D.tup (Ls.map D.tup ++ [D.tup []]),
                D.tup ((Ls.map D.tup).take w ++ D.tup (Ls.getD w [] ++ [D.str "a"]) :: (Ls.map D.tup).drop (w + 1)),
                D.tup ((Ls.map D.tup).take r ++ D.tup (Ls.getD r [] ++ [D.str "a"]) :: (Ls.map D.tup).drop (r + 1)),
                D.tup [D.tup (List.replicate (Int.toNat 24) [D.str "a"]).flatten, D.tup (List.replicate (Int.toNat 16) [D.str "a"]).flatten],
                D.tup [D.tup (List.replicate (Int.toNat 25) [D.str "a"]).flatten],
                D.tup [D.tup (List.replicate (Int.toNat 24) [D.str "a"]).flatten, D.tup (List.replicate (Int.toNat 17) [D.str "a"]).flatten],
                D.tup (List.replicate (Int.toNat 12) [D.tup []]).flatten,
                D.tup (List.replicate (Int.toNat 13) [D.tup []]).flatten] : List D).length ≤ 20 := by simp
  generalize [D.tup (Ls.map D.tup), D.tup (Ls.map D.tup ++ [D.tup []]),
                D.tup ((Ls.map D.tup).take w ++ D.tup (Ls.getD w [] ++ [D.str "a"]) :: (Ls.map D.tup).drop (w + 1)),
                D.tup ((Ls.map D.tup).take r ++ D.tup (Ls.getD r [] ++ [D.str "a"]) :: (Ls.map D.tup).drop (r + 1)),
                D.tup [D.tup (List.replicate (Int.toNat 24) [D.str "a"]).flatten, D.tup (List.replicate (Int.toNat 16) [D.str "a"]).flatten],
                D.tup [D.tup (List.replicate (Int.toNat 25) [D.str "a"]).flatten],
                D.tup [D.tup (List.replicate (Int.toNat 24) [D.str "a"]).flatten, D.tup (List.replicate (Int.toNat 17) [D.str "a"]).flatten],
                D.tup (List.replicate (Int.toNat 12) [D.tup []]).flatten,
                D.tup (List.replicate (Int.toNat 13) [D.tup []]).flatten] = V1 at hval hvl ⊢
  rw [e9]
  refine turns_mT (fun i : Nat => D.int (i : Int)) (fun i => D.tup [.str (n9.getD i ""), .int 1]) (List.range 9) (fun i hi => ?_) ?_
  · unfold WO
    simp_arith [ix9 i (List.mem_range.mp hi)]
  rw [nine_eq]
  have ct8 : Py.cutD (n9.map nn) none (some (8 : Int)) = (n9.take 8).map nn := by
    rw [List.map_take]
    exact cut_to (k := 8)
  have n9l : (n9.map nn).length ≤ 9 := by decide
  simp_arith [n9l]
  have turn : ∀ {env : Py.Env} {x : Str} {S : Store}, env.length = 13 → WO (lcG env (.tp [8, 9]) .no (.tup (.cons (.var 8) (.cons (.neg (.con (.int 1))) .nil))) (nn x) S) fun o S' => o = some (D.tup [.str x, .int (-1)]) ∧ S' = S := fun {env x S} he => by
    match env, he with
    | [a0, a1, a2, a3, a4, a5, a6, a7, a8, a9, b0, b1, b2], _ =>
      unfold WO nn
      rw [xlcG_tp rfl]
      simp_arith [List.foldr_cons, List.foldr_nil]
  refine turns_mT nn (fun x => D.tup [.str x, .int (-1)]) n9 (fun x hx => turn rfl) ?_
  have n9m : (n9.map fun x => D.tup [.str x, .int (-1)]).length ≤ 9 := by decide
  simp_arith [n9m, ct8, n9l]
  refine turns_mT nn (fun x => D.tup [.str x, .int (-1)]) (n9.take 8) (fun x hx => turn rfl) ?_
  have n8m : ((n9.take 8).map fun x => D.tup [.str x, .int (-1)]).length ≤ 9 := by decide
  have hv2 : ∀ d ∈ V1 ++ [D.tup [D.tup (n9.map nn), D.tup (n9.map fun x => D.tup [.str x, .int (-1)])], D.tup [D.tup ((n9.take 8).map nn), D.tup ((n9.take 8).map fun x => D.tup [.str x, .int (-1)])]], okV 6 d = true ∧ ∃ xs, d = .tup xs := fun d hd => by
    rcases List.mem_append.mp hd with hd | hd
    · exact hval d hd
    · simp only [List.mem_cons, List.mem_nil_iff, or_false] at hd
      rcases hd with rfl | rfl <;> exact ⟨by decide +kernel, _, rfl⟩
  simp_arith [n8m]
  refine for_sp (fun ds env S' => ∃ (b : Bool) (e2 e3 e4 e5 e6 e7 e8 e9 e10 e11 e12 : Option D), env = [some (.cell n), some (.bl b), e2, e3, e4, e5, e6, e7, e8, e9, e10, e11, e12] ∧ S' = S2 ∧ ∀ d ∈ ds, okV 6 d = true ∧ ∃ xs, d = .tup xs) ?_ ?_ _ _ _ ?_
  · rintro d ds _ S2 ⟨b, e2, e3, e4, e5, e6, e7, e8, e9, e10, e11, e12, rfl, rfl, hds⟩
    rw [WO_bindn]
    obtain ⟨ok, xs, rfl⟩ := hds d List.mem_cons_self
    have hv : Val S2 (.tup xs) := .ok _ ok rfl
    have sa := same_sp (S := S2) hv.sa
    cases hb : polysB (.tup xs)
    · simp_arith [made_no hv hb, hv.judge.2, hb, a20, a21, eq_pp, sa]
      exact ⟨_, _, _, _, _, _, _, _, _, _, _, _, rfl, fun d hd => hds d (List.mem_cons_of_mem _ hd)⟩
    · simp_arith [filmD, made_ok hv hb, hv.judge.2, hb, a20, a21, eq_mm, xfilm_attr, sa]
      exact ⟨_, _, _, _, _, _, _, _, _, _, _, _, rfl, fun d hd => hds d (List.mem_cons_of_mem _ hd)⟩
  · rintro _ S2 ⟨b, e2, e3, e4, e5, e6, e7, e8, e9, e10, e11, e12, rfl, rfl, hds⟩
    simp_arith
    refine WM_ret1 st.kept rfl ?_
    rw [← st.len, List.take_length]
    exact q _ st
  · exact ⟨_, _, _, _, _, _, _, _, _, _, _, _, rfl, rfl, hv2⟩
end K24
-- K24Y
namespace K24
open Py PySem PySem.Spec PyProof.Rows L2
theorem law_wp (ns : List Int) (h : ns.length ≤ 63) {k : D → Store → Prop} {kx : Exn → Store → Prop} (q : ∀ S, k (.bl true) S) : WM (f_law [.scr ns] []) k kx := by
  unfold f_law
  rw [WM_runF]
  unfold b_law
  simp_arith [List.length_map]
  have hm : (if (2 : Int) < (if (ns.length : Int) < 4 then (ns.length : Int) else 4) then (if (ns.length : Int) < 4 then (ns.length : Int) else 4) else 2) ≤ 4 ∧ 2 ≤ (if (2 : Int) < (if (ns.length : Int) < 4 then (ns.length : Int) else 4) then (if (ns.length : Int) < 4 then (ns.length : Int) else 4) else 2) := by
    split <;> split <;> omega
  refine for_sp (fun ds env S => ∃ e1 e2 e3 e4 e5 e6 e7 e8 e9, env = [some (.scr ns), e1, e2, e3, e4, e5, e6, e7, e8, e9] ∧ ∀ d ∈ ds, ∃ i : Nat, i ≤ 5 ∧ d = .int i) ?_ ?_ _ _ _ ?_
  · rintro d ds _ S ⟨e1, e2, e3, e4, e5, e6, e7, e8, e9, rfl, hd⟩
    rw [WO_bindn]
    obtain ⟨i, hi, rfl⟩ := hd d List.mem_cons_self
    simp_arith
    refine cell_sp i (by omega) fun g => ?_
    simp_arith
    refine box_sp fun a b c => ?_
    simp_arith
    have hb : Bx S.length (S ++ [boxC a b c 0]) := ⟨a, b, c, 0, by rw [at_app0] <;> rfl⟩
    generalize S ++ [boxC a b c 0] = S1 at hb ⊢
    generalize S.length = n at hb ⊢
    refine take_sp hb (by omega) (by omega) fun x S2 hx st2 => ?_
    simp_arith
    refine take_sp st2.box (by omega) (by omega) fun y S3 hy st3 => ?_
    simp_arith
    have lsn : ∀ x ∈ (["a", "b", "x", "zz"] : List Str), nmB x = true := by decide +kernel
    refine turns_inv (fun rs es S' => ∃ Fs : List (List (List D)), rs = Fs.map (fun L => D.tup (L.map .tup)) ∧ (∀ L ∈ Fs, Fm 4 14 L) ∧ Fs.length + es.length = 2 ∧ Bx n S') ?_ ?_ _ _ ⟨[], rfl, (fun _ h => by cases h), rfl, st3.box⟩
    · rintro rs d es S4 ⟨Fs, rfl, hF, hl, b4⟩
      unfold WO
      simp_arith
      refine take_sp b4 (by omega) (by omega) fun u S5 hu st5 => ?_
      simp_arith
      refine take_sp st5.box (by omega) (by omega) fun v S6 hv st6 => ?_
      simp_arith
      refine film_sp (ls := ["a", "b", "x", "zz"]) (g := v) (m := 6) st6.box (by omega) (by omega) lsn (by decide) (by decide) fun L S7 hL st7 => ?_
      refine ⟨Fs ++ [L], by simp, fun M hM => ?_, by simp at hl ⊢; omega, st7.box⟩
      rcases List.mem_append.mp hM with hM | hM
      · exact hF M hM
      · have : M = L := by simpa using hM
        subst this
        exact hL.mono (by decide) (by omega)
    · rintro rs S4 ⟨Fs, rfl, hF, hl, b4⟩
      match Fs, hl with
      | [L0, L1], _ =>
        have h0 := hF L0 (by simp)
        have h1 := hF L1 (by simp)
        simp_arith
        refine for_sp (fun es env S' => ∃ (b : Bool) (e7 : Option D), env = [some (.scr ns), some (.int i), some (.cell n), some (.bl b), some (.bl (decide ((y : Int) = 0))), some (.lst [.tup (L0.map .tup), .tup (L1.map .tup), .tup []]), e6, e7, e8, e9] ∧ Bx n S' ∧ ∀ d ∈ es, ∃ L, Fm 4 14 L ∧ d = .tup (L.map .tup)) ?_ ?_ _ _ _ ?_
        · rintro d es _ S5 ⟨b, e7, rfl, b5, hes⟩
          rw [WO_bindn]
          obtain ⟨L, hL, rfl⟩ := hes d List.mem_cons_self
          obtain ⟨g1, g2⟩ := hL.good (by decide) (by decide)
          simp_arith
          refine values_sp b5 g1 g2 (fun q => near_sp b5 hL (by decide) (by decide) q) fun S6 st6 => ?_
          simp_arith
          exact ⟨_, _, rfl, st6.box, fun d hd => hes d (List.mem_cons_of_mem _ hd)⟩
        · rintro _ S5 ⟨b, e7, rfl, b5, hes⟩
          have a0 : ∀ {x y z : D}, atI [x, y, z] 0 = some x := rfl
          have a1 : ∀ {x y z : D}, atI [x, y, z] 1 = some y := rfl
          have hL0 : (L0.map D.tup).length ≤ 4 := by rw [List.length_map]; exact h0.len
          simp_arith [a0, a1]
          refine for_sp (fun es env S' => ∃ (e8 e9 : Option D), env = [some (.scr ns), some (.int i), some (.cell n), some (.bl b), some (.bl (decide ((y : Int) = 0))), some (.lst [.tup (L0.map .tup), .tup (L1.map .tup), .tup []]), e6, e7, e8, e9] ∧ Bx n S' ∧ ∀ d ∈ es, ∃ L M, Fm 5 14 L ∧ Fm 5 14 M ∧ d = .tup [.tup (L.map .tup), .tup (M.map .tup)]) ?_ ?_ _ _ _ ?_
          · rintro d es _ S6 ⟨e8, e9, rfl, b6, hes⟩
            obtain ⟨L, M, hL, hM, rfl⟩ := hes d List.mem_cons_self
            rw [WO_bindt (by rfl)]
            obtain ⟨g1, g2⟩ := hL.good (by decide) (by decide)
            obtain ⟨m1, m2⟩ := hM.good (by decide) (by decide)
            simp_arith
            refine equal_sp g1 g2 m1 m2 ?_
            simp_arith
            exact ⟨_, _, rfl, b6, fun d hd => hes d (List.mem_cons_of_mem _ hd)⟩
          · rintro _ S6 ⟨e8, e9, rfl, b6, hes⟩
            have fin : ∀ {e : Py.Env}, (∃ e1 e2 e3 e4 e5 e6 e7 e8 e9, e = [some (.scr ns), e1, e2, e3, e4, e5, e6, e7, e8, e9]) → ∃ e1 e2 e3 e4 e5 e6 e7 e8 e9, e = [some (.scr ns), e1, e2, e3, e4, e5, e6, e7, e8, e9] ∧ ∀ d ∈ ds, ∃ i : Nat, i ≤ 5 ∧ d = .int i := fun ⟨a1, a2, a3, a4, a5, a6, a7, a8, a9, e⟩ => ⟨a1, a2, a3, a4, a5, a6, a7, a8, a9, e, fun d h => hd d (List.mem_cons_of_mem _ h)⟩
            simp_arith
            cases decide ((y : Int) = 0)
            · simp_arith
              exact fin ⟨_, _, _, _, _, _, _, _, _, rfl⟩
            · simp_arith
              refine limits_sp b6 fun S7 st7 => ?_
              simp_arith
              exact fin ⟨_, _, _, _, _, _, _, _, _, rfl⟩
          · refine ⟨_, _, rfl, b5, fun d hd => ?_⟩
            have u0 := h0.mono (show 4 ≤ 5 by decide) (Nat.le_refl 14)
            have u1 := h1.mono (show 4 ≤ 5 by decide) (Nat.le_refl 14)
            simp only [List.mem_cons, List.mem_nil_iff, or_false] at hd
            rcases hd with rfl | rfl | rfl | rfl
            · exact ⟨L0, L1, u0, u1, rfl⟩
            · exact ⟨L0, L0 ++ [[]], u0, h0.more, by rw [List.map_append]; rfl⟩
            · exact ⟨L1, L1.reverse, u1, u1.rev, by rw [List.map_reverse]⟩
            · exact ⟨L0, L0, u0, u0, rfl⟩
        · refine ⟨_, _, rfl, b4, fun d hd => ?_⟩
          simp only [List.mem_cons, List.mem_nil_iff, or_false] at hd
          rcases hd with rfl | rfl | rfl
          · exact ⟨L0, h0, rfl⟩
          · exact ⟨L1, h1, rfl⟩
          · exact ⟨[], .nil, rfl⟩
  · rintro _ S ⟨e1, e2, e3, e4, e5, e6, e7, e8, e9, rfl, hd⟩
    simp_arith
    exact WM_ret1 (fun j hj => by cases hj) rfl (q _)
  · refine ⟨_, _, _, _, _, _, _, _, _, rfl, fun d hd => ?_⟩
    obtain ⟨i, hi, rfl⟩ := List.mem_map.mp hd
    have := mem_intsL.mp hi
    exact ⟨i.toNat, by omega, by congr 1; omega⟩
end K24
-- K24E
namespace K24
open Py PySem PySem.Spec PyProof.Rows L2
theorem law_true (ns : List Int) (h : ns.length ≤ 63) : ∃ S, f_law [.scr ns] [] = .ok (.bl true) S := by
  have w : WO (f_law [.scr ns] []) fun d S => d = .bl true := law_wp ns h fun _ => rfl
  obtain ⟨d, S, e, rfl⟩ := WO.ex w
  exact ⟨S, e⟩
/-- the ground -/
def gx (P : Program) (w : World) (K : PySem.W.Frag) (mg : Str → Option Value) (base : Heap) : Py.Gx := ⟨P, w, ⟨K, [("Film" : Str)]⟩, mg, base⟩
theorem kf {w : World} {K : PySem.W.Frag} {h : Heap} {mg : Str → Option Value} (base : Heap) (X : K.In h) (G : h.Ns mainGlobals mg) (c0 : obsY fa fn xtra "RingError" K = (He.valD fn, true, supV)) : KF (gx PP w K mg base) := by
  obtain ⟨c, x, sv⟩ := saysY c0
  obtain ⟨p_kit, x⟩ := ba' x
  obtain ⟨p_na_Film_polygons, x⟩ := ba' x
  obtain ⟨p_mkr_Film, x⟩ := ba' x
  obtain ⟨p_eq_Film, x⟩ := ba' x
  obtain ⟨p_nt_Film, x⟩ := ba' x
  obtain ⟨p_x_InvalidPolygons, x⟩ := ba' x
  obtain ⟨p_sup, x⟩ := ba' x
  have p_h_InvalidPolygons_InvalidPolygons := x
  obtain ⟨k1, k2⟩ := kit_of_x p_kit
  have glo : ∀ (i : Nat) (nm : Str), fa[i]? = some (.glo nm) → mg nm = some (.ref (He.ga K nm)) := fun i nm e => He.glo_ok X G (c.fact i e)
  have hcl : ∀ y ∈ (gx PP w K mg base).B.cls, mg y = some (.ref (He.ga K y)) ∧ ClsI K (He.ga K y) := fun y hy => by
    have hy' : y ∈ ([("Film" : Str)] : List Str) := hy
    simp only [List.mem_cons, List.mem_nil_iff, or_false] at hy'
    rcases hy' with rfl
    · exact ⟨glo 25 "Film" rfl, k2 _ (by simp)⟩
  have hexc_InvalidPolygons := fun k hk => exc_of_x (g := gx PP w K mg base) (k := k) (D := "RingError") (c := "InvalidPolygons") (ar := defArgs s_RingError__init_) (st1 := (defBody s_RingError__init_).getD 0 (.Pass ⟨0, 0, 0, 0⟩)) (st2 := (defBody s_RingError__init_).getD 1 (.Pass ⟨0, 0, 0, 0⟩)) (sc := defScope s_RingError__init_) hk p_sup (by rw [show supW (gx PP w K mg base).B.K "RingError" = supV from sv]; kernel_rfl) (show supR PP _ _ _ _ = true by decide +kernel) p_x_InvalidPolygons (glo 26 "InvalidPolygons" rfl) (fun fd T us ep ed hl => by
    obtain ⟨n1, n2, n3, n4, n5, n6, n7, n8, n9, n10, n11, n12, n13, n14, n15⟩ := fd
    have ep : n3 = _ := ep
    have ed : n8 = _ := ed
    subst ep
    subst ed
    match us, hl with
    | [a, b], _ => exact ⟨_, rfl, fun x => rfl⟩)
  refine ⟨⟨fun y hy => ?_, hcl, k1⟩, c, fun i d hd => ?_, rfl, He.noat_ok p_na_Film_polygons, ?_, ?_, ?_, ?_, ?_, ?_, He.mkr_ok p_mkr_Film, ⟨He.meth_ok p_eq_Film, p_nt_Film⟩, fun k hk => (hexc_InvalidPolygons k hk).1, ?_⟩
  · obtain ⟨i, hi⟩ := List.mem_iff_getElem?.mp hy
    have e : fa.drop 33 = bnames.map He.Fa.free := rfl
    refine He.free_ok X G (c.fact (33 + i) ?_)
    rw [← List.getElem?_drop, e, List.getElem?_map, hi] <;> rfl
  · have e : fa.take fn.length = fn.map fun d => He.Fa.glo d.at_.1 := rfl
    have l : i < fn.length := (List.getElem?_eq_some_iff.mp hd).1
    refine glo i _ ?_
    rw [← List.getElem?_take_of_lt l, e, List.getElem?_map, hd] <;> rfl
  · obtain ⟨t, e⟩ := He.int_ok X G (c.fact 27 (f := .int "MOST_NAME" 12) rfl)
    exact ⟨_, e, .int 12, ⟨t, rfl⟩, fun _ _ => .int _⟩
  · obtain ⟨t, e⟩ := He.str_ok X G (c.fact 28 (f := .str "SIGNS" "abcdefghijklmnopqrstuvwxyz") rfl)
    exact ⟨_, e, .str _, ⟨t, rfl⟩, fun _ _ => .str _⟩
  · obtain ⟨t, e⟩ := He.int_ok X G (c.fact 29 (f := .int "MOST_POLYGONS" 12) rfl)
    exact ⟨_, e, .int 12, ⟨t, rfl⟩, fun _ _ => .int _⟩
  · obtain ⟨t, e⟩ := He.int_ok X G (c.fact 30 (f := .int "MOST_SIDES" 24) rfl)
    exact ⟨_, e, .int 24, ⟨t, rfl⟩, fun _ _ => .int _⟩
  · obtain ⟨t, e⟩ := He.int_ok X G (c.fact 31 (f := .int "MOST_ALL" 40) rfl)
    exact ⟨_, e, .int 40, ⟨t, rfl⟩, fun _ _ => .int _⟩
  · obtain ⟨t, e⟩ := He.int_ok X G (c.fact 32 (f := .int "MOST_NAMES" 8) rfl)
    exact ⟨_, e, .int 8, ⟨t, rfl⟩, fun _ _ => .int _⟩
  · refine ⟨_, glo 26 "InvalidPolygons" rfl, fun p hp => ?_, (by simp [OkX]), fun p hp hq => ?_⟩
    · simp only [List.mem_cons, List.mem_nil_iff, or_false] at hp
      rcases hp with rfl
      · exact He.exm_ok p_h_InvalidPolygons_InvalidPolygons
    · simp only [List.mem_cons, List.mem_nil_iff, or_false] at hp
      rcases hp with rfl
      · refine ⟨(hexc_InvalidPolygons 2 (Nat.le_refl _)).2.1, fun f hf => ?_⟩
        first
        | (have e : f = ("given" : Str) := by simpa [flds] using hf
           subst e
           exact (hexc_InvalidPolygons 2 (Nat.le_refl _)).2.2)
        | simp [flds] at hf
theorem law_end {w : World} {K : PySem.W.Frag} {h : Heap} {mg : Str → Option Value} {fa' : Addr} (X : K.In h) (nl : NoLists K) (G : h.Ns mainGlobals mg) (c0 : obsY fa fn xtra "RingError" K = (He.valD fn, true, supV)) (hm : mg ("law" : Str) = some (.ref fa')) :
    ∃ (K : PySem.W.Frag) (fd : FuncData) (sp : Sp), K.In h ∧ (∀ (s : Shared) (u : Value), BindsTo s fd ⟨[u], []⟩ [("script", u)]) ∧
        (∀ (H : Hp) (a : Addr) (ns : List Int), ns.length ≤ 63 → Only H → SqL K H a (ns.map V.int) → sp [.ref a] H (fun v _ => v = .bl true) fun _ _ _ => False) ∧
        ∀ base : Heap, K.In base → base.Ns mainGlobals mg → FnOk PP w K mg base (CXw PP) 44 fa' fd [("script" : Str)] sp := by
  have F0 := kf (w := w) h X G c0
  obtain ⟨fd, D⟩ := F0.c.def_ 24 (d := d_law) rfl
  have ef : fa' = He.ga K "law" := by
    have z := F0.gl 24 d_law rfl
    have z : mg ("law" : Str) = some (.ref (He.ga K "law")) := z
    rw [hm] at z
    cases z
    rfl
  subst ef
  refine ⟨K, fd, spOf (⟨K, [("Film" : Str)]⟩ : Bs) f_law 1, X, fun s u => ?_, fun H a ns hl ho hs => law_sp (B := ⟨K, [("Film" : Str)]⟩) nl ho hs (law_true ns hl), fun base X' G' => ?_⟩
  · exact FunD.bindsA (ps := ["script"]) D (fun _ _ _ _ _ _ us hl => match us, hl with | [_], _ => rfl) s [u] rfl
  · have F1 := kf (w := w) base X' G' c0
    have z := fn_ok F1.G (ps := [("script" : Str)]) (N := N_law) (z := true) (b := b_law) D s_law_sc c_law (ok_law F1)
    exact (FnOk.cx z fun _ _ _ _ _ _ q => ⟨w, q⟩).mono (by decide)
end K24
open PySem PySem.W PySem.Calls PyProof.Rows
theorem PySem.Challenge.cw_ringsandfilms_k24_films_holds : PySem.Challenge.rw_ringsandfilms_k24_films.Holds := by
  w_on; o_law
  refine HandSHeadRun.head_imp (r := K24.R) (q := view K24.R.prog [36]) (H := K24.hk) (ob := K24.ob) (M := 20000) (loose := K24.loose) (d := HandSHeadRun.topDef K24.R.prog 36) (kwd := []) K24.ob_eq
    K24.run (by kernel_rfl) (by kernel_rfl) (by kernel_rfl) (by rfl) (by first | assumption | decide +kernel) (by decide +kernel) ⟨rfl, rfl, rfl, rfl, rfl, by decide +kernel⟩ ?hw ?hc
  case hw => w_witness2
  case hc =>
    refine L2.walk_ofE (l := PySem.Challenge.rw_ringsandfilms_k24_films) (n := 63) (k := 44) (x := "script") (CX := Py.CXw K24.PP) rfl (by decide) (by kernel_rfl) ⟨rfl, by decide, by decide⟩ ?F (fun _ _ _ _ z => Py.CXw.none z)
    intro w mg fa h Y G hmg0
    obtain ⟨K, KX, nl, c⟩ := Y
    have hmg : mg ("law" : PySem.Str) = some (.ref fa) := by
      have e : (HandSHeadRun.topDef K24.R.prog 36).name = ("law" : PySem.Str) := by kernel_rfl
      rw [← e]
      exact hmg0
    exact K24.law_end KX nl G c hmg
