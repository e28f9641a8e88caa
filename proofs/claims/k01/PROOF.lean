import PyProof.Rows.All
import Wide.All
import OpenK.AllK
import Wide.FinOn
import HandS.ForMost
import HandS.Conv
import HandS.Flow
import HandS.Walk
import HandS.Exc
import HandS.WordsExc
import HandS.CallSlots
import HandS.ExcOwn
import HandS.TupAny
import HandS.Deep
import HandS.IsInst
import HandS.Zip
import KE.KDictZip
import HandS.GenList
import HandS.Set
import HandS.Strs
import PyProof.Rows.SetFrom
import PyProof.Rows.SortShellAny
import HandS.SortOrd
import HandS.TupLe
import KE.KSortTupG
import HandS.More
import HandS.Ends
import HandS.DictComp
import HandS.Star
import HandS.Small
import HandS.TupMul
import PySem.Challenge.RW_lockedgifts_k01_forms_of_values_and_form
set_option Elab.async false
set_option linter.all false
set_option maxRecDepth 100000
set_option maxHeartbeats 4000000
/-! the second layer: abstract states, what stands for what -/
namespace RA
open PySem PySem.Spec PyProof.Rows L2

abbrev D := PyData

/-- an object that may change -/
inductive Ob where
  | lst (ds : List D)
  | dk (kvs : List (Key × D))
  | dt (kvs : List (List Key × D))

/-- a value: data that no longer changes, a cell of the store, an own object's slot -/
inductive Vl where
  | d (x : D)
  | loc (n : Nat)
  | own (i : Nat)
  | frz (ds : List D)
  | kt (ds : List D)

/-- a slot -/
inductive Sl where
  | un
  | d (x : D)
  | frz (ds : List D)
  | loc (n : Nat)
  | own (o : Ob)

structure S where
  env : List Sl
  sto : List Ob

structure Exc where
  cls : Str
  fs : List (Str × D)

/-- the addresses: of the store, of own objects by slot, of those that stand by -/
structure Wd where
  L : List Addr
  O : List (Option Addr)
  T : List Addr

def Wd.live (A : Wd) (a : Addr) : Prop := a ∈ A.L ∨ some a ∈ A.O ∨ a ∈ A.T

def dKey : Key → D
  | .inl i => .int i
  | .inr x => .str x

/-- a tuple of the module's own top -/
def KTup (K : PySem.W.Frag) (a : Addr) (xs : List V) : Prop :=
  ∃ (o : Obj) (its : Array Value) (n : Nat), K.lookup a = some o ∧ o.cls = .type "tuple" ∧ o.data = .seq its n ∧ its.size ≤ sizeLine ∧ Vals xs its.toList

mutual
inductive RV (K : PySem.W.Frag) (A : Wd) (H : Hp) : V → D → Prop
  | non : RV K A H .non .none
  | bl (b : Bool) : RV K A H (.bl b) (.bool b)
  | int (i : Int) : RV K A H (.int i) (.int i)
  | str (x : Str) : RV K A H (.str x) (.str x)
  | lst {a : Addr} {xs : List V} {ds : List D} : ¬ A.live a → H a = some (.lst xs) → RVs K A H xs ds → RV K A H (.ref a) (.list ds)
  | tup {a : Addr} {xs : List V} {ds : List D} : ¬ A.live a → H a = some (.tup xs) → RVs K A H xs ds → RV K A H (.ref a) (.tuple ds)
  | dk {a : Addr} {kvs : List (Key × V)} {ds : List (D × D)} : ¬ A.live a → Rd H a (.dK kvs) → RVk K A H kvs ds → RV K A H (.ref a) (.dict ds)
  | dt {a : Addr} {kvs : List (List Key × V)} {ds : List (D × D)} : ds ≠ [] → ¬ A.live a → Rd H a (.dT kvs) → RVt K A H kvs ds → RV K A H (.ref a) (.dict ds)
inductive RVs (K : PySem.W.Frag) (A : Wd) (H : Hp) : List V → List D → Prop
  | nil : RVs K A H [] []
  | cons {v : V} {vs : List V} {d : D} {ds : List D} : RV K A H v d → RVs K A H vs ds → RVs K A H (v :: vs) (d :: ds)
inductive RVk (K : PySem.W.Frag) (A : Wd) (H : Hp) : List (Key × V) → List (D × D) → Prop
  | nil : RVk K A H [] []
  | cons {k : Key} {v : V} {vs : List (Key × V)} {d : D} {ds : List (D × D)} : RV K A H v d → RVk K A H vs ds → RVk K A H ((k, v) :: vs) ((dKey k, d) :: ds)
inductive RVt (K : PySem.W.Frag) (A : Wd) (H : Hp) : List (List Key × V) → List (D × D) → Prop
  | nil : RVt K A H [] []
  | cons {k : List Key} {v : V} {vs : List (List Key × V)} {d : D} {ds : List (D × D)} : RV K A H v d → RVt K A H vs ds → RVt K A H ((k, v) :: vs) ((.tuple (k.map dKey), d) :: ds)
end

/-- what is not live is kept, and no kept thing becomes live -/
structure Kp (A : Wd) (H : Hp) (A' : Wd) (H' : Hp) : Prop where
  keep : ∀ a u, ¬ A.live a → H a = some u → H' a = some u
  fresh : ∀ a, A'.live a → A.live a ∨ H a = none
theorem Kp.rd {A A' : Wd} {H H' : Hp} (e : Kp A H A' H') {a : Addr} {u : HO} (n : ¬ A.live a) (r : Rd H a u) : ¬ A'.live a ∧ Rd H' a u := by
  rcases r with r | ⟨o, r⟩
  · exact ⟨fun l => (e.fresh a l).elim n (fun z => nomatch (z.symm.trans r)), .inl (e.keep a _ n r)⟩
  · exact ⟨fun l => (e.fresh a l).elim n (fun z => nomatch (z.symm.trans r)), .inr ⟨o, e.keep a _ n r⟩⟩
theorem Kp.at {A A' : Wd} {H H' : Hp} (e : Kp A H A' H') {a : Addr} {u : HO} (n : ¬ A.live a) (r : H a = some u) : ¬ A'.live a ∧ H' a = some u :=
  ⟨fun l => (e.fresh a l).elim n (fun z => nomatch (z.symm.trans r)), e.keep a _ n r⟩
section
variable {K : PySem.W.Frag} {A A' : Wd} {H H' : Hp}
mutual
theorem RV.mono (e : Kp A H A' H') : ∀ {v : V} {d : D}, RV K A H v d → RV K A' H' v d
  | _, _, .non => .non
  | _, _, .bl b => .bl b
  | _, _, .int b => .int b
  | _, _, .str b => .str b
  | _, _, .lst n h hs => .lst (e.at n h).1 (e.at n h).2 (RVs.mono e hs)
  | _, _, .tup n h hs => .tup (e.at n h).1 (e.at n h).2 (RVs.mono e hs)
  | _, _, .dk n h hs => .dk (e.rd n h).1 (e.rd n h).2 (RVk.mono e hs)
  | _, _, .dt z n h hs => .dt z (e.rd n h).1 (e.rd n h).2 (RVt.mono e hs)
theorem RVs.mono (e : Kp A H A' H') : ∀ {v : List V} {d : List D}, RVs K A H v d → RVs K A' H' v d
  | _, _, .nil => .nil
  | _, _, .cons h hs => .cons (RV.mono e h) (RVs.mono e hs)
theorem RVk.mono (e : Kp A H A' H') : ∀ {v : List (Key × V)} {d : List (D × D)}, RVk K A H v d → RVk K A' H' v d
  | _, _, .nil => .nil
  | _, _, .cons h hs => .cons (RV.mono e h) (RVk.mono e hs)
theorem RVt.mono (e : Kp A H A' H') : ∀ {v : List (List Key × V)} {d : List (D × D)}, RVt K A H v d → RVt K A' H' v d
  | _, _, .nil => .nil
  | _, _, .cons h hs => .cons (RV.mono e h) (RVt.mono e hs)
end
end

/-! ### the state's relation -/
def RO (K : PySem.W.Frag) (A : Wd) (H : Hp) (a : Addr) : Ob → Prop
  | .lst ds => ∃ vs, H a = some (.lst vs) ∧ RVs K A H vs ds
  | .dk kvs => ∃ ps, H a = some (.dK ps) ∧ RVk K A H ps (kvs.map fun p => (dKey p.1, p.2))
  | .dt kvs => ∃ ps, H a = some (.dT ps) ∧ RVt K A H ps (kvs.map fun p => (.tuple (p.1.map dKey), p.2))
/-- a locked list (the script) -/
def KLst (K : PySem.W.Frag) (a : Addr) (xs : List V) : Prop :=
  ∃ (o : Obj) (its : Array Value) (n : Nat), K.lookup a = some o ∧ o.cls = .type "list" ∧ o.dict = none ∧ o.data = .seq its n ∧ its.size ≤ sizeLine ∧ Vals xs its.toList
def RF (K : PySem.W.Frag) (A : Wd) (H : Hp) (v : V) (ds : List D) : Prop := ∃ a xs, v = .ref a ∧ ((¬ A.live a ∧ ∃ o, H a = some (.frz o (.lst xs))) ∨ KLst K a xs) ∧ RVs K A H xs ds
theorem RF.mono {K : PySem.W.Frag} {A A' : Wd} {H H' : Hp} (e : Kp A H A' H') {v : V} {ds : List D} : RF K A H v ds → RF K A' H' v ds
  | ⟨a, xs, h1, h2, h4⟩ => ⟨a, xs, h1, h2.imp (fun ⟨n, o, h3⟩ => ⟨(e.at n h3).1, o, (e.at n h3).2⟩) id, h4.mono e⟩
def RW (K : PySem.W.Frag) (A : Wd) (H : Hp) (v : V) : Vl → Prop
  | .d x => RV K A H v x
  | .loc n => ∃ a, v = .ref a ∧ A.L[n]? = some a
  | .own i => ∃ a, v = .ref a ∧ A.O[i]? = some (some a)
  | .frz ds => RF K A H v ds
  | .kt ds => ∃ a vs, v = .ref a ∧ KTup K a vs ∧ RVs K A H vs ds
def RS (K : PySem.W.Frag) (A : Wd) (H : Hp) (σ : L2.St) (i : Nat) : Sl → Prop
  | .un => True
  | .d x => ∃ v, σ[i]? = some (some v) ∧ RV K A H v x
  | .frz ds => ∃ v, σ[i]? = some (some v) ∧ RF K A H v ds
  | .loc n => ∃ a, σ[i]? = some (some (.ref a)) ∧ A.L[n]? = some a
  | .own o => ∃ a, σ[i]? = some (some (.ref a)) ∧ A.O[i]? = some (some a) ∧ RO K A H a o
def hsz : HO → Nat
  | .lst xs => xs.length
  | .tup xs => xs.length
  | .dK xs => xs.length
  | .dT xs => xs.length
  | .frz _ u => hsz u
  | _ => 0
def HB (H : Hp) : Prop := ∀ a u, H a = some u → hsz u ≤ sizeLine
theorem HB.rd {H : Hp} (h : HB H) {a : Addr} {u : HO} (r : Rd H a u) : hsz u ≤ sizeLine := by
  rcases r with r | ⟨o, r⟩
  · exact h a u r
  · exact (show hsz u ≤ sizeLine from h a (.frz o u) r)
theorem ObjOk.hsz {P : Program} {w : World} {H : Hp} {h : Heap} {a : Addr} : ∀ {o : HO}, ObjOk P w H h a o → hsz o ≤ sizeLine
  | .lst _, x => x.1
  | .tup _, x => x.1
  | .dK _, x => x.1
  | .dT _, x => x.1
  | .frz _ u, x => (show RA.hsz u ≤ sizeLine from ObjOk.hsz (o := u) x.2)
  | .set _ _, _ => Nat.zero_le _
  | .ins _ _ _, _ => Nat.zero_le _
  | .own _, _ => Nat.zero_le _
  | .xd _, _ => Nat.zero_le _
  | .met _ _, _ => Nat.zero_le _
  | .rng _ _, _ => Nat.zero_le _
  | .tbl _, _ => Nat.zero_le _
  | .ext _, _ => Nat.zero_le _
theorem Inv.hb {X : Cx} {pins : List (Addr × Obj)} {σ : L2.St} {H : Hp} {s : Shared} (I : Inv X pins σ H s) : HB H := fun a u e => ObjOk.hsz (I.hok a u e)
structure Dj (A : Wd) (H : Hp) : Prop where
  LL : ∀ (i j : Nat) (a : Addr), A.L[i]? = some a → A.L[j]? = some a → i = j
  OO : ∀ (i j : Nat) (a : Addr), A.O[i]? = some (some a) → A.O[j]? = some (some a) → i = j
  LO : ∀ a, a ∈ A.L → some a ∈ A.O → False
  LT : ∀ a, a ∈ A.L → a ∈ A.T → False
  OT : ∀ a, some a ∈ A.O → a ∈ A.T → False
  dm : ∀ a, A.live a → H a ≠ none
structure SR (K : PySem.W.Frag) (A : Wd) (H : Hp) (σ : L2.St) (st : S) : Prop where
  le : σ.length = st.env.length
  lo : A.O.length = st.env.length
  ll : A.L.length = st.sto.length
  sl : ∀ i s, st.env[i]? = some s → RS K A H σ i s
  so : ∀ (n : Nat) o, st.sto[n]? = some o → ∃ a, A.L[n]? = some a ∧ RO K A H a o
  dj : Dj A H
  hb : HB H

/-- within an expression: the addresses stay -/
structure Stp (A : Wd) (H H' : Hp) : Prop where
  keep : ∀ a u, ¬ A.live a → H a = some u → H' a = some u
  keepT : ∀ a, a ∈ A.T → H' a = H a
  dom : ∀ a, H a ≠ none → H' a ≠ none
theorem Stp.refl (A : Wd) (H : Hp) : Stp A H H := ⟨fun _ _ _ h => h, fun _ _ => rfl, fun _ h => h⟩
theorem Stp.trans {A : Wd} {H H1 H2 : Hp} (a : Stp A H H1) (b : Stp A H1 H2) : Stp A H H2 :=
  ⟨fun x u n h => b.keep x u n (a.keep x u n h), fun x h => (b.keepT x h).trans (a.keepT x h), fun x h => b.dom x (a.dom x h)⟩
theorem Stp.kp {A : Wd} {H H1 : Hp} (a : Stp A H H1) : Kp A H A H1 := ⟨a.keep, fun _ l => .inl l⟩
theorem Stp.back {A : Wd} {H H1 : Hp} (a : Stp A H H1) {p : Addr} (h : H1 p = none) : H p = none := Classical.byContradiction fun z => a.dom p z h
/-- between statements -/
structure Ext (A : Wd) (H : Hp) (A' : Wd) (H' : Hp) : Prop where
  kp : Kp A H A' H'
  T : A'.T = A.T
  keepT : ∀ a, a ∈ A.T → H' a = H a
  L : ∃ l, A'.L = A.L ++ l
  dom : ∀ a, H a ≠ none → H' a ≠ none
theorem Kp.trans {A A1 A2 : Wd} {H H1 H2 : Hp} (a : Kp A H A1 H1) (b : Kp A1 H1 A2 H2) (d : ∀ a, H a ≠ none → H1 a ≠ none) : Kp A H A2 H2 where
  keep x u n h := b.keep x u (fun l => (a.fresh x l).elim n fun z => nomatch (z.symm.trans h)) (a.keep x u n h)
  fresh x l := by
    rcases b.fresh x l with h | h
    · exact a.fresh x h
    · exact .inr (Classical.byContradiction fun z => d x z h)
theorem Ext.refl (A : Wd) (H : Hp) : Ext A H A H := ⟨⟨fun _ _ _ h => h, fun _ l => .inl l⟩, rfl, fun _ _ => rfl, ⟨[], by simp⟩, fun _ h => h⟩
theorem Ext.trans {A A1 A2 : Wd} {H H1 H2 : Hp} (a : Ext A H A1 H1) (b : Ext A1 H1 A2 H2) : Ext A H A2 H2 where
  kp := a.kp.trans b.kp a.dom
  T := b.T.trans a.T
  keepT x h := (b.keepT x (by rw [a.T]; exact h)).trans (a.keepT x h)
  L := by
    obtain ⟨l, e⟩ := a.L
    obtain ⟨m, f⟩ := b.L
    exact ⟨l ++ m, by rw [f, e, List.append_assoc]⟩
  dom x h := b.dom x (a.dom x h)
theorem Stp.ext {A : Wd} {H H1 : Hp} (a : Stp A H H1) : Ext A H A H1 := ⟨a.kp, rfl, a.keepT, ⟨[], by simp⟩, a.dom⟩
theorem Ext.back {A A1 : Wd} {H H1 : Hp} (a : Ext A H A1 H1) {p : Addr} (h : H1 p = none) : H p = none := Classical.byContradiction fun z => a.dom p z h

section
variable {K : PySem.W.Frag} {A A' : Wd} {H H' : Hp} {σ : L2.St} {st : S}
theorem RW.step (e : Stp A H H') {v : V} : ∀ {w : Vl}, RW K A H v w → RW K A H' v w
  | .d _, h => RV.mono e.kp h
  | .loc _, h => h
  | .own _, h => h
  | .frz _, h => RF.mono e.kp h
  | .kt _, ⟨a, vs, h1, h2, h3⟩ => ⟨a, vs, h1, h2, h3.mono e.kp⟩
def Wd.push (A : Wd) (p : Addr) : Wd := { A with T := p :: A.T }
theorem live_push {A : Wd} {p a : Addr} : (A.push p).live a ↔ a = p ∨ A.live a := by
  unfold Wd.live Wd.push
  simp only [List.mem_cons]
  constructor
  · rintro (h | h | h | h)
    · exact .inr (.inl h)
    · exact .inr (.inr (.inl h))
    · exact .inl h
    · exact .inr (.inr (.inr h))
  · rintro (h | h | h | h)
    · exact .inr (.inr (.inl h))
    · exact .inl h
    · exact .inr (.inl h)
    · exact .inr (.inr (.inr h))
theorem kp_new {p : Addr} {o : HO} (h : H p = none) : Kp A H (A.push p) (upd H p o) where
  keep a u n e := by rw [upd_ne (ne_of_none e h)]; exact e
  fresh a l := by
    rcases live_push.mp l with rfl | l
    · exact .inr h
    · exact .inl l
theorem stp_new {p : Addr} {o : HO} (h : H p = none) (dj : Dj A H) : Stp A H (upd H p o) where
  keep a u n e := by rw [upd_ne (ne_of_none e h)]; exact e
  keepT a m := upd_ne fun z => dj.dm a (.inr (.inr m)) (z ▸ h)
  dom a e := by
    by_cases z : a = p
    · rw [z, upd_same]; exact fun q => nomatch q
    · rw [upd_ne z]; exact e
theorem RO.mono (e : Kp A H A' H') {a : Addr} (hk : H' a = H a) : ∀ {o : Ob}, RO K A H a o → RO K A' H' a o
  | .lst _, ⟨vs, h, r⟩ => ⟨vs, hk.trans h, RVs.mono e r⟩
  | .dk _, ⟨vs, h, r⟩ => ⟨vs, hk.trans h, RVk.mono e r⟩
  | .dt _, ⟨vs, h, r⟩ => ⟨vs, hk.trans h, RVt.mono e r⟩
theorem SR.mono (sr : SR K A H σ st) (e : Kp A H A' H') (hL : A'.L = A.L) (hO : A'.O = A.O) (hk : ∀ a, a ∈ A.L ∨ some a ∈ A.O → H' a = H a) (dj : Dj A' H') (hb : HB H') : SR K A' H' σ st where
  le := sr.le
  lo := by rw [hO]; exact sr.lo
  ll := by rw [hL]; exact sr.ll
  sl i s h := by
    have r := sr.sl i s h
    cases s with
    | un => trivial
    | d x => obtain ⟨v, h1, h2⟩ := r; exact ⟨v, h1, h2.mono e⟩
    | frz x => obtain ⟨v, h1, h2⟩ := r; exact ⟨v, h1, h2.mono e⟩
    | loc n => obtain ⟨a, h1, h2⟩ := r; exact ⟨a, h1, by rw [hL]; exact h2⟩
    | own o => obtain ⟨a, h1, h2, h3⟩ := r; exact ⟨a, h1, by rw [hO]; exact h2, h3.mono e (hk a (.inr (List.mem_of_getElem? h2)))⟩
  so n o h := by
    obtain ⟨a, h1, h2⟩ := sr.so n o h
    exact ⟨a, by rw [hL]; exact h1, h2.mono e (hk a (.inl (List.mem_of_getElem? h1)))⟩
  dj := dj
  hb := hb
theorem hb_upd {p : Addr} {o : HO} (hb : HB H) (h : hsz o ≤ sizeLine) : HB (upd H p o) := fun a u e => by
  by_cases z : a = p
  · rw [z, upd_same] at e; cases e; exact h
  · rw [upd_ne z] at e; exact hb a u e
theorem Dj.new {p : Addr} {o : HO} (dj : Dj A H) (h : H p = none) : Dj (A.push p) (upd H p o) where
  LL := dj.LL
  OO := dj.OO
  LO := dj.LO
  LT a l t := by
    rcases List.mem_cons.mp t with rfl | t
    · exact dj.dm a (.inl l) h
    · exact dj.LT a l t
  OT a l t := by
    rcases List.mem_cons.mp t with rfl | t
    · exact dj.dm a (.inr (.inl l)) h
    · exact dj.OT a l t
  dm a l := by
    by_cases z : a = p
    · rw [z, upd_same]; exact fun q => nomatch q
    · rw [upd_ne z]
      rcases live_push.mp l with e | l
      · exact absurd e z
      · exact dj.dm a l
theorem SR.new (sr : SR K A H σ st) {p : Addr} {o : HO} (h : H p = none) (hz : hsz o ≤ sizeLine) : SR K (A.push p) (upd H p o) σ st :=
  sr.mono (kp_new h) rfl rfl (fun a l => upd_ne fun z => sr.dj.dm a (l.elim .inl fun q => .inr (.inl q)) (z ▸ h)) (sr.dj.new h) (hb_upd sr.hb hz)
theorem kp_pop {p : Addr} : Kp (A.push p) H A H := ⟨fun _ _ _ e => e, fun _ l => .inl (live_push.mpr (.inr l))⟩
theorem Dj.pop {p : Addr} (dj : Dj (A.push p) H) : Dj A H :=
  ⟨dj.LL, dj.OO, dj.LO, fun a l t => dj.LT a l (List.mem_cons_of_mem _ t), fun a l t => dj.OT a l (List.mem_cons_of_mem _ t), fun a l => dj.dm a (live_push.mpr (.inr l))⟩
theorem SR.pop {p : Addr} (sr : SR K (A.push p) H σ st) : SR K A H σ st := sr.mono kp_pop rfl rfl (fun _ _ => rfl) sr.dj.pop sr.hb
/-- the data that an object is when it no longer changes -/
def Ob.dat : Ob → D
  | .lst ds => .list ds
  | .dk kvs => .dict (kvs.map fun p => (dKey p.1, p.2))
  | .dt kvs => .dict (kvs.map fun p => (.tuple (p.1.map dKey), p.2))
/-- no empty dict of the second kind -/
def Ob.frzOk : Ob → Bool
  | .dt [] => false
  | _ => true
@[simp] theorem frzOk_lst {ds : List D} : (Ob.lst ds).frzOk = true := rfl
@[simp] theorem frzOk_dk {ds : List (Key × D)} : (Ob.dk ds).frzOk = true := rfl
theorem RO.frz {a : Addr} (n : ¬ A.live a) : ∀ {o : Ob}, o.frzOk = true → RO K A H a o → RV K A H (.ref a) o.dat
  | .lst _, _, ⟨_, h, r⟩ => .lst n h r
  | .dk _, _, ⟨_, h, r⟩ => .dk n (.inl h) r
  | .dt [], z, _ => nomatch z
  | .dt (p :: r), _, ⟨_, h, q⟩ => .dt (by simp) n (.inl h) q
end
end RA
set_option Elab.async false
set_option linter.all false
set_option maxRecDepth 100000
set_option maxHeartbeats 4000000
namespace RA
open PySem PySem.Spec PyProof.Rows L2

inductive R (α : Type) where
  | ok (x : α) (st : S)
  | exc (e : Exc) (st : S)
  | bad
def R.bind {α β : Type} : R α → (α → S → R β) → R β
  | .ok x st, f => f x st
  | .exc e st, _ => .exc e st
  | .bad, _ => .bad
@[simp] theorem R.bind_ok {α β : Type} (x : α) (st : S) (f : α → S → R β) : (R.ok x st).bind f = f x st := rfl
@[simp] theorem R.bind_exc {α β : Type} (e : Exc) (st : S) (f : α → S → R β) : (R.exc e st : R α).bind f = .exc e st := rfl
@[simp] theorem R.bind_bad {α β : Type} (f : α → S → R β) : (R.bad : R α).bind f = .bad := rfl

inductive RWs (K : PySem.W.Frag) (A : Wd) (H : Hp) : List V → List Vl → Prop
  | nil : RWs K A H [] []
  | cons {v : V} {w : Vl} {vs : List V} {ws : List Vl} : RW K A H v w → RWs K A H vs ws → RWs K A H (v :: vs) (w :: ws)
theorem RWs.step {K : PySem.W.Frag} {A : Wd} {H H' : Hp} (e : Stp A H H') : ∀ {v : List V} {d : List Vl}, RWs K A H v d → RWs K A H' v d
  | _, _, .nil => .nil
  | _, _, .cons h hs => .cons (h.step e) (RWs.step e hs)

section
variable (K : PySem.W.Frag) (mg : Str → Option Value)
/-- an error in the air: its class, its own dict -/
def RE (A : Wd) (H : Hp) (cls : Value) (d : Option Addr) (e : Exc) : Prop :=
  ∃ C, cls = .ref C ∧ mg e.cls = some (.ref C) ∧ ((d = none ∧ e.fs = []) ∨
    ∃ dx ps, d = some dx ∧ ¬ A.live dx ∧ H dx = some (.xd ps) ∧ ps.map (·.1) = e.fs.map (·.1) ∧ RVs K A H (ps.map (·.2)) (e.fs.map (·.2)))
variable (W : WX) (A : Wd) (H : Hp) (σ : L2.St)
def PostX {α : Type} (r : R α) (fin : α → S → Hp → Prop) : Prop :=
  match r with
  | .ok x st' => ∀ H', Stp A H H' → SR K A H' σ st' → fin x st' H'
  | .exc e st' => ∀ cls d H', Stp A H H' → SR K A H' σ st' → RE K mg A H' cls d e → W cls d σ H'
  | .bad => False
end
section
variable {K : PySem.W.Frag} {mg : Str → Option Value} {W : WX} {A : Wd} {H H1 : Hp} {σ : L2.St} {α β : Type}
theorem PostX.rebase {r : R α} {fin : α → S → Hp → Prop} (e : Stp A H H1) (h : PostX K mg W A H σ r fin) : PostX K mg W A H1 σ r fin := by
  cases r with
  | ok x st => exact fun H' e' sr => h H' (e.trans e') sr
  | exc x st => exact fun cls d H' e' sr re => h cls d H' (e.trans e') sr re
  | bad => exact h
theorem PostX.imp {r : R α} {fin fin' : α → S → Hp → Prop} (h : PostX K mg W A H σ r fin) (f : ∀ x st' H', Stp A H H' → SR K A H' σ st' → fin x st' H' → fin' x st' H') : PostX K mg W A H σ r fin' := by
  cases r with
  | ok x st => exact fun H' e' sr => f x st H' e' sr (h H' e' sr)
  | exc x st => exact h
  | bad => exact h
theorem PostX.bind {r : R α} {f : α → S → R β} {fin : β → S → Hp → Prop} (h : PostX K mg W A H σ (r.bind f) fin) : PostX K mg W A H σ r (fun x st1 H1 => PostX K mg W A H1 σ (f x st1) fin) := by
  cases r with
  | ok x st => exact fun H' e' sr => PostX.rebase e' h
  | exc x st => exact h
  | bad => exact h
/-- a result in the state as it stands -/
theorem PostX.here {x : α} {st : S} {fin : α → S → Hp → Prop} (h : PostX K mg W A H σ (.ok x st) fin) (sr : SR K A H σ st) : fin x st H := h H (Stp.refl A H) sr
end
section
variable (K : PySem.W.Frag) (mg : Str → Option Value) (W : WX)
def trX {α : Type} (m : S → R α) (fin : Wd → Hp → α → S → Hp → Prop) (σ : L2.St) (H : Hp) : Prop :=
  ∃ A st, SR K A H σ st ∧ PostX K mg W A H σ (m st) (fin A H)
def tr (m : S → R Vl) : TE := fun σ H Q => trX K mg W m (fun A _ w _ H' => ∀ v, RW K A H' v w → Q v H') σ H
def trT (m : S → R Bool) : TT := fun σ H Q => trX K mg W m (fun _ _ b _ H' => Q b H') σ H
def trA (m : S → R (List Vl)) : TA := fun σ H Q => trX K mg W m (fun A _ ws _ H' => ∀ vs, RWs K A H' vs ws → Q vs H') σ H
/-- a new object, that nothing else leads to -/
def trF (m : S → R Ob) : TE := fun σ H Q => trX K mg W m (fun A H ob st' H' => ∀ a, H a = none → SR K (A.push a) H' σ st' → RO K (A.push a) H' a ob → Q (.ref a) H') σ H
def SOp (r : R2) (f : Vl → Vl → S → R Vl) : Prop :=
  ∀ (A : Wd) (H : Hp) (σ : L2.St) (st : S) (v v2 : V) (x y : Vl) (Q : VK), SR K A H σ st → RW K A H v x → RW K A H v2 y → PostX K mg W A H σ (f x y st) (fun w _ H' => ∀ v', RW K A H' v' w → Q v' H') → r v v2 H Q
def SUn (r : V → Hp → VK → Prop) (f : Vl → S → R Vl) : Prop :=
  ∀ (A : Wd) (H : Hp) (σ : L2.St) (st : S) (v : V) (x : Vl) (Q : VK), SR K A H σ st → RW K A H v x → PostX K mg W A H σ (f x st) (fun w _ H' => ∀ v', RW K A H' v' w → Q v' H') → r v H Q
def SCall (r : List V → Hp → VK → Prop) (f : List Vl → S → R Vl) : Prop :=
  ∀ (A : Wd) (H : Hp) (σ : L2.St) (st : S) (vs : List V) (xs : List Vl) (Q : VK), SR K A H σ st → RWs K A H vs xs → PostX K mg W A H σ (f xs st) (fun w _ H' => ∀ v', RW K A H' v' w → Q v' H') → r vs H Q
def SCallF (r : List V → Hp → VK → Prop) (f : List Vl → S → R Ob) : Prop :=
  ∀ (A : Wd) (H : Hp) (σ : L2.St) (st : S) (vs : List V) (xs : List Vl) (Q : VK), SR K A H σ st → RWs K A H vs xs → PostX K mg W A H σ (f xs st) (fun ob st' H' => ∀ a, H a = none → SR K (A.push a) H' σ st' → RO K (A.push a) H' a ob → Q (.ref a) H') → r vs H Q
end
theorem PE.imp {X : Cx} {e : Expr} {t t' : TE} (p : PE X e t) (w : ∀ σ H Q, t' σ H Q → t σ H Q) : PE X e t' := ⟨fun pins s σ H Q I h => p.run pins s σ H Q I (w σ H Q h)⟩
theorem PT.imp {X : Cx} {e : Expr} {t t' : TT} (p : PT X e t) (w : ∀ σ H Q, t' σ H Q → t σ H Q) : PT X e t' := ⟨fun pins s σ H Q I h => p.run pins s σ H Q I (w σ H Q h)⟩
theorem PW.imp {X : Cx} {e : Expr} {t t' : TT} (p : PW X e t) (w : ∀ σ H Q, t' σ H Q → t σ H Q) : PW X e t' := ⟨fun wh pins s σ H Q I h => p.run wh pins s σ H Q I (w σ H Q h)⟩
theorem PA.imp {X : Cx} {e : List Expr} {t t' : TA} (p : PA X e t) (w : ∀ σ H Q, t' σ H Q → t σ H Q) : PA X e t' := ⟨fun po pins s σ H Q I h => p.run po pins s σ H Q I (w σ H Q h)⟩
theorem PS.imp {X : Cx} {e : Stmt} {t t' : TS} (p : PS X e t) (w : ∀ D σ H, t' D σ H → t D σ H) : PS X e t' := ⟨fun pins s σ H D I h => p.run pins s σ H D I (w D σ H h)⟩
theorem PSs.imp {X : Cx} {e : List Stmt} {t t' : TS} (p : PSs X e t) (w : ∀ D σ H, t' D σ H → t D σ H) : PSs X e t' := ⟨fun pins s σ H D I h => p.run pins s σ H D I (w D σ H h)⟩

abbrev AE (X : Cx) (W : WX) (e : Expr) (m : S → R Vl) : Prop := PE X e (tr X.K X.mg W m)
abbrev AF (X : Cx) (W : WX) (e : Expr) (m : S → R Ob) : Prop := PE X e (trF X.K X.mg W m)
abbrev AT (X : Cx) (W : WX) (e : Expr) (m : S → R Bool) : Prop := PT X e (trT X.K X.mg W m)
abbrev AW (X : Cx) (W : WX) (e : Expr) (m : S → R Bool) : Prop := PW X e (trT X.K X.mg W m)
abbrev AA (X : Cx) (W : WX) (es : List Expr) (m : S → R (List Vl)) : Prop := PA X es (trA X.K X.mg W m)

/-! ### heaps -/
section
variable {K : PySem.W.Frag} {A : Wd} {H : Hp} {σ : L2.St} {st : S}
theorem SR.newp (sr : SR K A H σ st) {p : Addr} {o : HO} (h : H p = none) (hz : hsz o ≤ sizeLine) : SR K A (upd H p o) σ st := (sr.new h hz).pop
theorem nlive (sr : SR K A H σ st) {p : Addr} (h : H p = none) : ¬ A.live p := fun l => sr.dj.dm p l h
theorem kp_new0 (sr : SR K A H σ st) {p : Addr} {o : HO} (h : H p = none) : Kp A H A (upd H p o) := (stp_new h sr.dj).kp
theorem RVs.length {vs : List V} {ds : List D} (h : RVs K A H vs ds) : vs.length = ds.length := by
  induction vs generalizing ds with
  | nil => cases h; rfl
  | cons v vs ih => cases h with | cons a b => simp [ih b]
theorem RVs.get {vs : List V} {ds : List D} (h : RVs K A H vs ds) : ∀ {i : Nat} {d : D}, ds[i]? = some d → ∃ v, vs[i]? = some v ∧ RV K A H v d := by
  induction vs generalizing ds with
  | nil => cases h; intro i d e; simp at e
  | cons v vs ih =>
    cases h with
    | cons a b =>
      intro i d e
      cases i with
      | zero => simp at e; subst e; exact ⟨v, rfl, a⟩
      | succ i => exact ih b e
theorem RVs.append {vs us : List V} {ds es : List D} (h : RVs K A H vs ds) (g : RVs K A H us es) : RVs K A H (vs ++ us) (ds ++ es) := by
  induction vs generalizing ds with
  | nil => cases h; exact g
  | cons v vs ih => cases h with | cons a b => exact .cons a (ih b)
theorem RVs.drop {vs : List V} {ds : List D} (h : RVs K A H vs ds) : ∀ n : Nat, RVs K A H (vs.drop n) (ds.drop n) := by
  induction vs generalizing ds with
  | nil => cases h; intro n; simp; exact .nil
  | cons v vs ih =>
    cases h with
    | cons a b =>
      intro n
      cases n with
      | zero => exact .cons a b
      | succ n => exact ih b n
theorem RVs.take {vs : List V} {ds : List D} (h : RVs K A H vs ds) : ∀ n : Nat, RVs K A H (vs.take n) (ds.take n) := by
  induction vs generalizing ds with
  | nil => cases h; intro n; simp; exact .nil
  | cons v vs ih =>
    cases h with
    | cons a b =>
      intro n
      cases n with
      | zero => exact .nil
      | succ n => exact .cons a (ih b n)
theorem rv_newtup (sr : SR K A H σ st) {p : Addr} {vs : List V} {ds : List D} (h : H p = none) (r : RVs K A H vs ds) : RV K A (upd H p (.tup vs)) (.ref p) (.tuple ds) :=
  .tup (nlive sr h) upd_same (r.mono (kp_new0 sr h))
theorem ro_newlst {p : Addr} {vs : List V} {ds : List D} (h : H p = none) (r : RVs K A H vs ds) : RO K (A.push p) (upd H p (.lst vs)) p (.lst ds) :=
  ⟨vs, upd_same, r.mono (kp_new h)⟩
theorem rv_newlst (sr : SR K A H σ st) {p : Addr} {vs : List V} {ds : List D} (h : H p = none) (r : RVs K A H vs ds) : RV K A (upd H p (.lst vs)) (.ref p) (.list ds) :=
  .lst (nlive sr h) upd_same (r.mono (kp_new0 sr h))
/-- all data -/
def datas : List Vl → Option (List D)
  | [] => some []
  | .d x :: r => (datas r).map fun l => x :: l
  | _ :: _ => none
theorem datas_rv : ∀ {ws : List Vl} {ds : List D} {vs : List V}, RWs K A H vs ws → datas ws = some ds → RVs K A H vs ds
  | [], ds, vs, r, e => by cases r; cases e; exact .nil
  | .d x :: ws, ds, vs, r, e => by
    cases r with
    | cons h t =>
      simp only [datas, Option.map_eq_some_iff] at e
      obtain ⟨l, e1, rfl⟩ := e
      exact .cons h (datas_rv t e1)
  | .loc _ :: ws, ds, vs, r, e => nomatch e
  | .own _ :: ws, ds, vs, r, e => nomatch e
  | .frz _ :: ws, ds, vs, r, e => nomatch e
  | .kt _ :: ws, ds, vs, r, e => nomatch e
@[simp] theorem datas_nil : datas [] = some [] := rfl
@[simp] theorem datas_cons {x : D} {r : List Vl} : datas (.d x :: r) = (datas r).map fun l => x :: l := rfl
/-- the items of a value that is a list that may be written -/
def lstOf : Vl → S → Option (List D)
  | .d (.list xs), _ => some xs
  | .loc n, st => match st.sto[n]? with | some (.lst xs) => some xs | _ => none
  | .own i, st => match st.env[i]? with | some (.own (.lst xs)) => some xs | _ => none
  | _, _ => none
theorem lstOf_at (sr : SR K A H σ st) {x : Vl} {v : V} {ds : List D} (r : RW K A H v x) (e : lstOf x st = some ds) : ∃ a vs, v = .ref a ∧ H a = some (.lst vs) ∧ RVs K A H vs ds := by
  unfold lstOf at e
  split at e
  · cases e
    cases r with
    | lst n h q => exact ⟨_, _, rfl, h, q⟩
  · rename_i st' n
    split at e
    · rename_i xs h
      cases e
      obtain ⟨a, rfl, ha⟩ := r
      obtain ⟨b, hb, vs, h1, h2⟩ := sr.so n _ h
      rw [ha] at hb; cases hb
      exact ⟨a, vs, rfl, h1, h2⟩
    · cases e
  · rename_i st' i
    split at e
    · rename_i xs h
      cases e
      obtain ⟨a, rfl, ha⟩ := r
      obtain ⟨b, _, hb, vs, h1, h2⟩ := sr.sl i _ h
      rw [ha] at hb; cases hb
      exact ⟨a, vs, rfl, h1, h2⟩
    · cases e
  · cases e
/-- .. or that is locked -/
def seqOf : Vl → S → Option (List D)
  | .frz xs, _ => some xs
  | x, st => lstOf x st
theorem seqOf_at (sr : SR K A H σ st) {x : Vl} {v : V} {ds : List D} (r : RW K A H v x) (e : seqOf x st = some ds) : ∃ a vs, v = .ref a ∧ SqL K H a vs ∧ RVs K A H vs ds := by
  unfold seqOf at e
  split at e
  · cases e
    obtain ⟨a, vs, rfl, h, q⟩ := r
    refine ⟨a, vs, rfl, ?_, q⟩
    rcases h with ⟨_, o, h⟩ | h
    · exact .inl (.inr ⟨o, h⟩)
    · exact .inr h
  · obtain ⟨a, vs, e1, e2, e3⟩ := lstOf_at sr r e
    exact ⟨a, vs, e1, .inl (.inl e2), e3⟩
/-- the items of a tuple, one of the module's own top too -/
def tupOf : Vl → Option (List D)
  | .d (.tuple xs) => some xs
  | .kt xs => some xs
  | _ => none
theorem tupOf_at {x : Vl} {v : V} {ds : List D} (r : RW K A H v x) (e : tupOf x = some ds) : ∃ a vs, v = .ref a ∧ SqT K H a vs ∧ RVs K A H vs ds := by
  unfold tupOf at e
  split at e
  · cases e
    cases r with
    | tup n h q => exact ⟨_, _, rfl, .inl (.inl h), q⟩
  · cases e
    obtain ⟨a, vs, rfl, h, q⟩ := r
    exact ⟨a, vs, rfl, .inr h, q⟩
  · cases e
theorem tup_at {v : V} {ds : List D} (r : RV K A H v (.tuple ds)) : ∃ a vs, v = .ref a ∧ SqT K H a vs ∧ RVs K A H vs ds := by
  cases r with
  | tup n h q => exact ⟨_, _, rfl, .inl (.inl h), q⟩
end

/-! ### expressions -/
section
variable {X : Cx} {W : WX} {e a b : Expr} {pos : Pos} {ma mb : S → R Vl}
def mC (x : D) : S → R Vl := fun st => .ok (.d x) st
theorem ae_c {v : V} {x : D} (p : PE X e (tC v)) (r : ∀ A H, RV X.K A H v x) : AE X W e (mC x) := PE.imp p fun σ H Q ⟨A, st, sr, h⟩ => h.here sr v (r A H)
theorem ae_int {i : Int} {j : Nat} : AE X W (.Constant (.int i) j pos) (mC (.int i)) := ae_c pe_int fun _ _ => .int i
theorem ae_bl {i : Bool} {j : Nat} : AE X W (.Constant (.bool i) j pos) (mC (.bool i)) := ae_c pe_bl fun _ _ => .bl i
theorem ae_str {i : Str} {j : Nat} : AE X W (.Constant (.str i) j pos) (mC (.str i)) := ae_c pe_str fun _ _ => .str i
theorem ae_non {j : Nat} : AE X W (.Constant .none j pos) (mC .none) := ae_c pe_non fun _ _ => .non
def mVar (i : Nat) : S → R Vl := fun st => match st.env[i]? with
  | some (.d x) => .ok (.d x) st
  | some (.loc n) => .ok (.loc n) st
  | some (.own _) => .ok (.own i) st
  | some (.frz ds) => .ok (.frz ds) st
  | _ => .bad
theorem ae_var {i : Nat} (p : PE X e (tVar i)) : AE X W e (mVar i) := PE.imp p fun σ H Q ⟨A, st, sr, h⟩ => by
  unfold mVar at h
  split at h
  · rename_i x e
    obtain ⟨v, h1, h2⟩ := sr.sl i _ e
    exact ⟨v, h1, h.here sr v h2⟩
  · rename_i n e
    obtain ⟨a, h1, h2⟩ := sr.sl i _ e
    exact ⟨_, h1, h.here sr _ ⟨a, rfl, h2⟩⟩
  · rename_i o e
    obtain ⟨a, h1, h2, h3⟩ := sr.sl i _ e
    exact ⟨_, h1, h.here sr _ ⟨a, rfl, h2⟩⟩
  · rename_i x e
    obtain ⟨v, h1, h2⟩ := sr.sl i _ e
    exact ⟨v, h1, h.here sr v h2⟩
  · exact h.elim
def m2 (f : Vl → Vl → S → R Vl) (ma mb : S → R Vl) : S → R Vl := fun st => (ma st).bind fun x s1 => (mb s1).bind fun y s2 => f x y s2
def m1 (f : Vl → S → R Vl) (ma : S → R Vl) : S → R Vl := fun st => (ma st).bind f
theorem tr_m2 {r : R2} {f : Vl → Vl → S → R Vl} {K : PySem.W.Frag} {mg : Str → Option Value} (so : SOp K mg W r f) (σ : L2.St) (H : Hp) (Q : VK) (h : tr K mg W (m2 f ma mb) σ H Q) : tOp r (tr K mg W ma) (tr K mg W mb) σ H Q := by
  obtain ⟨A, st, sr, p⟩ := h
  exact ⟨A, st, sr, p.bind.imp fun x s1 H1 e1 sr1 p1 v rv => ⟨A, s1, sr1, p1.bind.imp fun y s2 H2 e2 sr2 p2 v2 rv2 => so A H2 σ s2 v v2 x y Q sr2 (rv.step e2) rv2 p2⟩⟩
theorem ae_op {op : Operator} {r : R2} {f : Vl → Vl → S → R Vl} (ho : OpR X (binaryOp op) r) (so : SOp X.K X.mg W r f) (ha : AE X W a ma) (hb : AE X W b mb) : AE X W (.BinOp a op b pos) (m2 f ma mb) :=
  PE.imp (pe_op ho ha hb) (tr_m2 so)
theorem ae_cmp {op : CmpOp} {r : R2} {f : Vl → Vl → S → R Vl} (ho : OpR X (compareOp op) r) (so : SOp X.K X.mg W r f) (ha : AE X W a ma) (hb : AE X W b mb) (hm : behindInMarks op b = false) : AE X W (.Compare a [op] [b] pos) (m2 f ma mb) :=
  PE.imp (pe_cmpR ho ha hb hm) (tr_m2 so)
theorem ae_ix {r : R2} {f : Vl → Vl → S → R Vl} (ho : IxR X r) (so : SOp X.K X.mg W r f) (ha : AE X W a ma) (hb : AE X W b mb) (hs : PlainIx b) : AE X W (.Subscript a b pos) (m2 f ma mb) :=
  PE.imp (pe_ix ho ha hb hs) (tr_m2 so)
theorem ae_un {op : UnaryOp} {r : V → Hp → VK → Prop} {f : Vl → S → R Vl} (ho : UnR X (unaryOp op) r) (so : SUn X.K X.mg W r f) (ha : AE X W a ma) : AE X W (.UnaryOp op a pos) (m1 f ma) :=
  PE.imp (pe_un ho ha) fun σ H Q ⟨A, st, sr, p⟩ => ⟨A, st, sr, p.bind.imp fun x s1 H1 e1 sr1 p1 v rv => so A H1 σ s1 v x Q sr1 rv p1⟩
/-! tests -/
def asB : Vl → S → R Bool
  | .d (.bool b), st => .ok b st
  | _, _ => .bad
def mB (ma : S → R Vl) : S → R Bool := fun st => (ma st).bind asB
theorem at_val (ha : AE X W e ma) (he : ∀ whole, isTrue e X.env whole = (do let v ← whole; standAt e.pos; holding [v] (truthy v)) := by intro _; rfl) : AT X W e (mB ma) :=
  PT.imp (pt_val ha he) fun σ H Q ⟨A, st, sr, p⟩ => ⟨A, st, sr, p.bind.imp fun x s1 H1 e1 sr1 p1 v rv => by
    unfold asB at p1
    split at p1
    · cases rv; exact ⟨_, rfl, p1.here sr1⟩
    · exact p1.elim⟩
theorem at_cmp {op : CmpOp} {r : R2} {f : Vl → Vl → S → R Vl} (ho : OpR X (compareOp op) r) (so : SOp X.K X.mg W r f) (ha : AE X W a ma) (hb : AE X W b mb) (hm : behindInMarks op b = false) : AT X W (.Compare a [op] [b] pos) (mB (m2 f ma mb)) :=
  PT.imp (pt_cmpR ho ha hb hm) fun σ H Q ⟨A, st, sr, p⟩ => tr_m2 so σ H _ ⟨A, st, sr, p.bind.imp fun x s1 H1 e1 sr1 p1 v rv => by
    unfold asB at p1
    split at p1
    · cases rv; exact ⟨_, rfl, p1.here sr1⟩
    · exact p1.elim⟩
variable {tA tB : S → R Bool} {rest : List Expr}
def mAnd (t u : S → R Bool) : S → R Bool := fun st => (t st).bind fun c s1 => if c = true then u s1 else .ok false s1
def mOr (t u : S → R Bool) : S → R Bool := fun st => (t st).bind fun c s1 => if c = true then .ok true s1 else u s1
def mNot (t : S → R Bool) : S → R Bool := fun st => (t st).bind fun c s1 => .ok (!c) s1
theorem aw_and1 (ha : AT X W a tA) : AW X W (.BoolOp .And [a] pos) tA := pw_and1 ha
theorem aw_or1 (ha : AT X W a tA) : AW X W (.BoolOp .Or [a] pos) tA := pw_or1 ha
theorem aw_and (ha : AT X W a tA) (hb : AW X W (.BoolOp .And (b :: rest) pos) tB) : AW X W (.BoolOp .And (a :: b :: rest) pos) (mAnd tA tB) :=
  PW.imp (pw_and ha hb) fun σ H Q ⟨A, st, sr, p⟩ => ⟨A, st, sr, p.bind.imp fun c s1 H1 e1 sr1 p1 => by
    cases c with
    | true => exact ⟨A, s1, sr1, p1⟩
    | false => exact p1.here sr1⟩
theorem aw_or (ha : AT X W a tA) (hb : AW X W (.BoolOp .Or (b :: rest) pos) tB) : AW X W (.BoolOp .Or (a :: b :: rest) pos) (mOr tA tB) :=
  PW.imp (pw_or ha hb) fun σ H Q ⟨A, st, sr, p⟩ => ⟨A, st, sr, p.bind.imp fun c s1 H1 e1 sr1 p1 => by
    cases c with
    | true => exact p1.here sr1
    | false => exact ⟨A, s1, sr1, p1⟩⟩
theorem at_pw (h : AW X W e tA) : AT X W e tA := PW.pt h
theorem at_not (ha : AT X W a tA) : AT X W (.UnaryOp .Not a pos) (mNot tA) :=
  PT.imp (pt_not ha) fun σ H Q ⟨A, st, sr, p⟩ => ⟨A, st, sr, p.bind.imp fun c s1 H1 e1 sr1 p1 => p1.here sr1⟩
/-- a and b, a or b, not a as values: truths -/
def mAndV (t u : S → R Vl) : S → R Vl := fun st => (mB t st).bind fun c s1 => if c = true then u s1 else .ok (.d (.bool false)) s1
def mOrV (t u : S → R Vl) : S → R Vl := fun st => (mB t st).bind fun c s1 => if c = true then .ok (.d (.bool true)) s1 else u s1
def mNotV (t : S → R Vl) : S → R Vl := fun st => (mB t st).bind fun c s1 => .ok (.d (.bool (!c))) s1
theorem PostX.bindB {K : PySem.W.Frag} {mg : Str → Option Value} {A : Wd} {H : Hp} {σ : L2.St} {β : Type} {st : S} {f : Bool → S → R β} {fin : β → S → Hp → Prop} (h : PostX K mg W A H σ ((mB ma st).bind f) fin) :
    PostX K mg W A H σ (ma st) (fun x st1 H1 => ∀ v, RW K A H1 v x → ∃ c, v = .bl c ∧ PostX K mg W A H1 σ (f c st1) fin) := by
  have p : PostX K mg W A H σ (mB ma st) _ := h.bind
  exact PostX.imp (PostX.bind p) fun x s1 H1 e1 sr1 p1 v rv => by
    unfold asB at p1
    split at p1
    · cases rv
      exact ⟨_, rfl, PostX.here p1 sr1⟩
    · exact p1.elim
theorem ae_one {op : BoolOp} (ha : AE X W a ma) : AE X W (.BoolOp op [a] pos) ma := pe_one ha
theorem ae_and (ha : AE X W a ma) (hb : AE X W (.BoolOp .And (b :: rest) pos) mb) : AE X W (.BoolOp .And (a :: b :: rest) pos) (mAndV ma mb) :=
  PE.imp (pe_and ha hb) fun σ H Q ⟨A, st, sr, p⟩ => ⟨A, st, sr, p.bindB.imp fun x s1 H1 e1 sr1 p1 v rv => by
    obtain ⟨c, rfl, q⟩ := p1 v rv
    refine ⟨c, rfl, ?_⟩
    cases c with
    | true => exact ⟨A, s1, sr1, q⟩
    | false => exact q.here sr1 _ (.bl false)⟩
theorem ae_or (ha : AE X W a ma) (hb : AE X W (.BoolOp .Or (b :: rest) pos) mb) : AE X W (.BoolOp .Or (a :: b :: rest) pos) (mOrV ma mb) :=
  PE.imp (pe_or ha hb) fun σ H Q ⟨A, st, sr, p⟩ => ⟨A, st, sr, p.bindB.imp fun x s1 H1 e1 sr1 p1 v rv => by
    obtain ⟨c, rfl, q⟩ := p1 v rv
    refine ⟨c, rfl, ?_⟩
    cases c with
    | true => exact q.here sr1 _ (.bl true)
    | false => exact ⟨A, s1, sr1, q⟩⟩
theorem ae_not (ha : AE X W a ma) : AE X W (.UnaryOp .Not a pos) (mNotV ma) :=
  PE.imp (pe_not ha) fun σ H Q ⟨A, st, sr, p⟩ => ⟨A, st, sr, p.bindB.imp fun x s1 H1 e1 sr1 p1 v rv => by
    obtain ⟨c, rfl, q⟩ := p1 v rv
    exact ⟨c, rfl, q.here sr1 _ (.bl _)⟩⟩
def mIf (t : S → R Bool) (ma mb : S → R Vl) : S → R Vl := fun st => (t st).bind fun c s1 => if c = true then ma s1 else mb s1
theorem ae_if {c : Expr} (hc : AT X W c tA) (ha : AE X W a ma) (hb : AE X W b mb) : AE X W (.IfExp c a b pos) (mIf tA ma mb) :=
  PE.imp (pe_ifExp hc ha hb) fun σ H Q ⟨A, st, sr, p⟩ => ⟨A, st, sr, p.bind.imp fun c s1 H1 e1 sr1 p1 => by
    cases c with
    | true => exact ⟨A, s1, sr1, p1⟩
    | false => exact ⟨A, s1, sr1, p1⟩⟩
/-! arguments, displays -/
variable {es : List Expr} {ms : S → R (List Vl)}
def aNil : S → R (List Vl) := fun st => .ok [] st
def aCons (ma : S → R Vl) (ms : S → R (List Vl)) : S → R (List Vl) := fun st => (ma st).bind fun x s1 => (ms s1).bind fun xs s2 => .ok (x :: xs) s2
theorem aa_nil : AA X W [] aNil := PA.imp pa_nil fun σ H Q ⟨A, st, sr, p⟩ => p.here sr [] .nil
theorem aa_cons (ha : AE X W e ma) (hr : AA X W es ms) (hs : starEach (e :: es) X.env = (false, eval e X.env) :: starEach es X.env := by rfl) : AA X W (e :: es) (aCons ma ms) :=
  PA.imp (pa_cons ha hr hs) fun σ H Q ⟨A, st, sr, p⟩ => ⟨A, st, sr, p.bind.imp fun x s1 H1 e1 sr1 p1 v rv => ⟨A, s1, sr1, p1.bind.imp fun xs s2 H2 e2 sr2 p2 vs rvs => p2.here sr2 _ (.cons (rv.step e2) rvs)⟩⟩
def mTup (ms : S → R (List Vl)) : S → R Vl := fun st => (ms st).bind fun ws s1 => match datas ws with
  | some ds => if ds.length ≤ sizeLine then .ok (.d (.tuple ds)) s1 else .bad
  | none => .bad
theorem ae_tup {x1 : Nat} (h : AA X W es ms) : AE X W (.Tuple es x1 pos) (mTup ms) :=
  PE.imp (pe_tup h) fun σ H Q ⟨A, st, sr, p⟩ => ⟨A, st, sr, p.bind.imp fun ws s1 H1 e1 sr1 p1 vs rv => by
    dsimp only at p1
    split at p1
    · rename_i ds e
      have q := datas_rv rv e
      split at p1
      · rename_i hz
        have hz' : vs.length ≤ sizeLine := by rw [q.length]; exact hz
        exact ⟨hz', fun pp hp => p1 _ (stp_new hp sr1.dj) (sr1.newp (o := .tup vs) hp hz') _ (rv_newtup sr1 hp q)⟩
      · exact p1.elim
    · exact p1.elim⟩
def mLst (ms : S → R (List Vl)) : S → R Ob := fun st => (ms st).bind fun ws s1 => match datas ws with
  | some ds => if ds.length ≤ sizeLine then .ok (.lst ds) s1 else .bad
  | none => .bad
theorem af_lst (h : AA X W es ms) : AF X W (.List es pos) (mLst ms) :=
  PE.imp (pe_lst h) fun σ H Q ⟨A, st, sr, p⟩ => ⟨A, st, sr, p.bind.imp fun ws s1 H1 e1 sr1 p1 vs rv => by
    dsimp only at p1
    split at p1
    · rename_i ds e
      have q := datas_rv rv e
      split at p1
      · rename_i hz
        have hz' : vs.length ≤ sizeLine := by rw [q.length]; exact hz
        exact ⟨hz', fun pp hp => p1 _ (stp_new hp sr1.dj) (sr1.newp (o := .lst vs) hp hz') _ (e1.back hp) (sr1.new (o := .lst vs) hp hz') (ro_newlst hp q)⟩
      · exact p1.elim
    · exact p1.elim⟩
/-- a new object, taken as data -/
def mFrz (m : S → R Ob) : S → R Vl := fun st => (m st).bind fun o s1 => if o.frzOk = true then .ok (.d o.dat) s1 else .bad
theorem ae_frz {m : S → R Ob} (h : AF X W e m) : AE X W e (mFrz m) :=
  PE.imp h fun σ H Q ⟨A, st, sr, p⟩ => ⟨A, st, sr, p.bind.imp fun o s1 H1 e1 sr1 p1 a na sra ro => by
    split at p1
    · rename_i hz
      exact p1.here sr1 _ ((RO.mono kp_pop rfl ro).frz (nlive sr na) hz)
    · exact p1.elim⟩
end
end RA
set_option Elab.async false
set_option linter.all false
set_option maxRecDepth 100000
set_option maxHeartbeats 4000000
namespace RA
open PySem PySem.Spec PyProof.Rows L2

/-! ### built-ins called -/
section
variable {X : Cx} {W : WX} {e : Expr} {es : List Expr} {pos p : Pos} {ms : S → R (List Vl)} {x : Str} {id T : String} {r : List V → Hp → VK → Prop}
def mCall (f : List Vl → S → R Vl) (ms : S → R (List Vl)) : S → R Vl := fun st => (ms st).bind f
def mCallF (f : List Vl → S → R Ob) (ms : S → R (List Vl)) : S → R Ob := fun st => (ms st).bind f
theorem ae_callB {f : List Vl → S → R Vl} (hc : CallR X (.builtin id) r) (so : SCall X.K X.mg W r f) (hg : Gl X x) (hm : X.mg x = none) (hv : bootBuiltins x = some (.builtin id)) (ha : AA X W (e :: es) ms) (hn : x ≠ "__name__" := by decide) (hdb : (x == ("__debug__" : Str)) = false := by decide)
    (he : starEach (e :: es) X.env = (false, eval e X.env) :: starEach es X.env := by rfl) (hpl : (backTo pos (starEach es X.env)).any (·.1) = false := by rfl) : AE X W (.Call (.Name x p) (e :: es) [] pos) (mCall f ms) :=
  PE.imp (pe_callB hc hg hm hv ha hn hdb he hpl) fun σ H Q ⟨A, st, sr, q⟩ => ⟨A, st, sr, q.bind.imp fun ws s1 H1 e1 sr1 p1 vs rv => so A H1 σ s1 vs ws Q sr1 rv p1⟩
theorem ae_callTy {f : List Vl → S → R Vl} (hc : CallR X (.type T) r) (so : SCall X.K X.mg W r f) (hg : Gl X x) (hm : X.mg x = none) (hv : bootBuiltins x = some (.type T)) (ha : AA X W (e :: es) ms) (hn : x ≠ "__name__" := by decide) (hdb : (x == ("__debug__" : Str)) = false := by decide)
    (he : starEach (e :: es) X.env = (false, eval e X.env) :: starEach es X.env := by rfl) (hpl : (backTo pos (starEach es X.env)).any (·.1) = false := by rfl) : AE X W (.Call (.Name x p) (e :: es) [] pos) (mCall f ms) :=
  PE.imp (pe_callTy hc hg hm hv ha hn hdb he hpl) fun σ H Q ⟨A, st, sr, q⟩ => ⟨A, st, sr, q.bind.imp fun ws s1 H1 e1 sr1 p1 vs rv => so A H1 σ s1 vs ws Q sr1 rv p1⟩
theorem PostX.fresh {K : PySem.W.Frag} {mg : Str → Option Value} {A : Wd} {H H1 : Hp} {σ : L2.St} {q : R Ob} {Q : VK} (e : Stp A H H1)
    (h : PostX K mg W A H1 σ q (fun ob st' H' => ∀ a, H a = none → SR K (A.push a) H' σ st' → RO K (A.push a) H' a ob → Q (.ref a) H')) :
    PostX K mg W A H1 σ q (fun ob st' H' => ∀ a, H1 a = none → SR K (A.push a) H' σ st' → RO K (A.push a) H' a ob → Q (.ref a) H') :=
  h.imp fun ob st' H' _ _ g a na => g a (e.back na)
theorem af_callB {f : List Vl → S → R Ob} (hc : CallR X (.builtin id) r) (so : SCallF X.K X.mg W r f) (hg : Gl X x) (hm : X.mg x = none) (hv : bootBuiltins x = some (.builtin id)) (ha : AA X W (e :: es) ms) (hn : x ≠ "__name__" := by decide) (hdb : (x == ("__debug__" : Str)) = false := by decide)
    (he : starEach (e :: es) X.env = (false, eval e X.env) :: starEach es X.env := by rfl) (hpl : (backTo pos (starEach es X.env)).any (·.1) = false := by rfl) : AF X W (.Call (.Name x p) (e :: es) [] pos) (mCallF f ms) :=
  PE.imp (pe_callB hc hg hm hv ha hn hdb he hpl) fun σ H Q ⟨A, st, sr, q⟩ => ⟨A, st, sr, q.bind.imp fun ws s1 H1 e1 sr1 p1 vs rv => so A H1 σ s1 vs ws Q sr1 rv (p1.fresh e1)⟩
theorem af_callTy {f : List Vl → S → R Ob} (hc : CallR X (.type T) r) (so : SCallF X.K X.mg W r f) (hg : Gl X x) (hm : X.mg x = none) (hv : bootBuiltins x = some (.type T)) (ha : AA X W (e :: es) ms) (hn : x ≠ "__name__" := by decide) (hdb : (x == ("__debug__" : Str)) = false := by decide)
    (he : starEach (e :: es) X.env = (false, eval e X.env) :: starEach es X.env := by rfl) (hpl : (backTo pos (starEach es X.env)).any (·.1) = false := by rfl) : AF X W (.Call (.Name x p) (e :: es) [] pos) (mCallF f ms) :=
  PE.imp (pe_callTy hc hg hm hv ha hn hdb he hpl) fun σ H Q ⟨A, st, sr, q⟩ => ⟨A, st, sr, q.bind.imp fun ws s1 H1 e1 sr1 p1 vs rv => so A H1 σ s1 vs ws Q sr1 rv (p1.fresh e1)⟩
end

/-! ### functions -/
inductive Rt where
  | v (w : Vl)
  | o (ob : Ob)
inductive FR where
  | ok (r : Rt) (sto : List Ob)
  | exc (e : Exc) (sto : List Ob)
  | bad
abbrev Fn := List Vl → List Ob → FR

def Wd.callee (A : Wd) : Wd := ⟨A.L, [], A.T ++ A.O.filterMap id⟩
theorem live_callee {A : Wd} {a : Addr} : A.callee.live a ↔ A.live a := by
  unfold Wd.callee Wd.live
  simp only [List.not_mem_nil, false_or, List.mem_append, List.mem_filterMap, id_eq, exists_eq_right]
  constructor
  · rintro (h | h | h)
    · exact .inl h
    · exact .inr (.inr h)
    · exact .inr (.inl h)
  · rintro (h | h | h)
    · exact .inl h
    · exact .inr (.inr h)
    · exact .inr (.inl h)
theorem Kp.of_live {A A' : Wd} {H : Hp} (h : ∀ a, A'.live a → A.live a) : Kp A H A' H := ⟨fun _ _ _ e => e, fun a l => .inl (h a l)⟩
section
variable (K : PySem.W.Frag) (mg : Str → Option Value)
def PostF (A : Wd) (H : Hp) (r : FR) (Q : VK) (E : XK) : Prop :=
  match r with
  | .ok (.v w) sto' => ∀ v H', Stp A H H' → SR K A H' [] ⟨[], sto'⟩ → RW K A H' v w → Q v H'
  | .ok (.o ob) sto' => ∀ a H', H a = none → Stp A H H' → SR K (A.push a) H' [] ⟨[], sto'⟩ → RO K (A.push a) H' a ob → Q (.ref a) H'
  | .exc e sto' => ∀ cls d H', Stp A H H' → SR K A H' [] ⟨[], sto'⟩ → RE K mg A H' cls d e → E cls d H'
  | .bad => False
/-- the promise of a def whose mirror is F -/
def spA (n : Nat) (F : Fn) : Sp := fun vs H Q E => ∃ A sto ws, A.O = [] ∧ vs.length = n ∧ SR K A H [] ⟨[], sto⟩ ∧ RWs K A H vs ws ∧ PostF K mg A H (F ws sto) Q E
end
section
variable {K : PySem.W.Frag} {mg : Str → Option Value} {A : Wd} {H H' : Hp} {σ : L2.St} {st : S}
theorem RO.of_live {A' : Wd} {a : Addr} {o : Ob} (h : ∀ a, A'.live a → A.live a) (r : RO K A H a o) : RO K A' H a o := r.mono (Kp.of_live h) rfl
theorem SR.callee (sr : SR K A H σ st) : SR K A.callee H [] ⟨[], st.sto⟩ where
  le := rfl
  lo := rfl
  ll := sr.ll
  sl i s h := by simp at h
  so n o h := by
    obtain ⟨a, h1, h2⟩ := sr.so n o h
    exact ⟨a, h1, h2.of_live fun a l => live_callee.mp l⟩
  dj := {
    LL := sr.dj.LL
    OO := fun i j a h => by simp [Wd.callee] at h
    LO := fun a _ h => by simp [Wd.callee] at h
    LT := fun a l t => by
      simp only [Wd.callee, List.mem_append, List.mem_filterMap, id_eq, exists_eq_right] at t
      exact t.elim (sr.dj.LT a l) (sr.dj.LO a l)
    OT := fun a h => by simp [Wd.callee] at h
    dm := fun a l => sr.dj.dm a (live_callee.mp l) }
  hb := sr.hb
theorem callee_T {a : Addr} (h : some a ∈ A.O) : a ∈ A.callee.T := by
  simp only [Wd.callee, List.mem_append, List.mem_filterMap, id_eq, exists_eq_right]
  exact .inr h
theorem Stp.ret (e : Stp A.callee H H') : Stp A H H' where
  keep a u n h := e.keep a u (fun l => n (live_callee.mp l)) h
  keepT a h := e.keepT a (by simp only [Wd.callee, List.mem_append]; exact .inl h)
  dom := e.dom
theorem Dj.step (dj : Dj A H) (d : ∀ a, H a ≠ none → H' a ≠ none) : Dj A H' := ⟨dj.LL, dj.OO, dj.LO, dj.LT, dj.OT, fun a l => d a (dj.dm a l)⟩
theorem Dj.push (dj : Dj A H) {p : Addr} (h : H p = none) (d : ∀ a, H a ≠ none → H' a ≠ none) (hp : H' p ≠ none) : Dj (A.push p) H' where
  LL := dj.LL
  OO := dj.OO
  LO := dj.LO
  LT a l t := by
    rcases List.mem_cons.mp t with rfl | t
    · exact dj.dm a (.inl l) h
    · exact dj.LT a l t
  OT a l t := by
    rcases List.mem_cons.mp t with rfl | t
    · exact dj.dm a (.inr (.inl l)) h
    · exact dj.OT a l t
  dm a l := by
    rcases live_push.mp l with rfl | l
    · exact hp
    · exact d a (dj.dm a l)
/-- the caller's state behind a call -/
theorem SR.ret (sr : SR K A H σ st) {sto' : List Ob} (e : Stp A.callee H H') (s' : SR K A.callee H' [] ⟨[], sto'⟩) : SR K A H' σ ⟨st.env, sto'⟩ where
  le := sr.le
  lo := sr.lo
  ll := s'.ll
  sl i s h := by
    have r := sr.sl i s h
    have kp := e.ret.kp
    cases s with
    | un => trivial
    | d x => obtain ⟨v, h1, h2⟩ := r; exact ⟨v, h1, h2.mono kp⟩
    | frz x => obtain ⟨v, h1, h2⟩ := r; exact ⟨v, h1, h2.mono kp⟩
    | loc n => exact r
    | own o => obtain ⟨a, h1, h2, h3⟩ := r; exact ⟨a, h1, h2, h3.mono kp (e.keepT a (callee_T (List.mem_of_getElem? h2)))⟩
  so n o h := by
    obtain ⟨a, h1, h2⟩ := s'.so n o h
    exact ⟨a, h1, h2.of_live fun a l => live_callee.mpr l⟩
  dj := sr.dj.step e.dom
  hb := s'.hb
theorem live_push_callee {p a : Addr} : (A.callee.push p).live a ↔ (A.push p).live a := by
  rw [live_push, live_push, live_callee]
theorem SR.retO (sr : SR K A H σ st) {sto' : List Ob} {p : Addr} (na : H p = none) (e : Stp A.callee H H') (s' : SR K (A.callee.push p) H' [] ⟨[], sto'⟩) : SR K (A.push p) H' σ ⟨st.env, sto'⟩ where
  le := sr.le
  lo := sr.lo
  ll := s'.ll
  sl i s h := by
    have r := sr.sl i s h
    have kp : Kp A H (A.push p) H' := ⟨e.ret.keep, fun a l => (live_push.mp l).elim (fun z => .inr (z ▸ na)) .inl⟩
    cases s with
    | un => trivial
    | d x => obtain ⟨v, h1, h2⟩ := r; exact ⟨v, h1, h2.mono kp⟩
    | frz x => obtain ⟨v, h1, h2⟩ := r; exact ⟨v, h1, h2.mono kp⟩
    | loc n => exact r
    | own o => obtain ⟨a, h1, h2, h3⟩ := r; exact ⟨a, h1, h2, h3.mono kp (e.keepT a (callee_T (List.mem_of_getElem? h2)))⟩
  so n o h := by
    obtain ⟨a, h1, h2⟩ := s'.so n o h
    exact ⟨a, h1, h2.of_live fun a l => live_push_callee.mpr l⟩
  dj := sr.dj.push na e.dom (s'.dj.dm p (live_push.mpr (.inl rfl)))
  hb := s'.hb
theorem RWs.callee {vs : List V} {ws : List Vl} (h : RWs K A H vs ws) (no : ∀ w ∈ ws, ∀ i, w ≠ .own i) : RWs K A.callee H vs ws := by
  induction vs generalizing ws with
  | nil => cases h; exact .nil
  | cons v vs ih =>
    cases h with
    | @cons v w vs ws a b =>
      refine .cons ?_ (ih b fun w hw => no w (List.mem_cons_of_mem _ hw))
      cases w with
      | d x => exact RV.mono (Kp.of_live fun a l => live_callee.mp l) a
      | frz x => exact RF.mono (Kp.of_live fun a l => live_callee.mp l) a
      | kt x => obtain ⟨b, us, h1, h2, h3⟩ := a; exact ⟨b, us, h1, h2, h3.mono (Kp.of_live fun a l => live_callee.mp l)⟩
      | loc n => exact a
      | own i => exact absurd rfl (no _ List.mem_cons_self i)
end
def notOwn : Vl → Bool
  | .own _ => false
  | _ => true
theorem notOwn_of {ws : List Vl} (h : ws.all notOwn = true) : ∀ w ∈ ws, ∀ i, w ≠ .own i := fun w hw i e => by
  have q := List.all_eq_true.mp h w hw
  rw [e] at q
  cases q
/-- a call of a def, as a value; as a new object -/
def callV (F : Fn) (ws : List Vl) (st : S) : R Vl := if ws.all notOwn = true then (match F ws st.sto with
  | .ok (.v w) sto' => .ok w ⟨st.env, sto'⟩
  | .ok (.o ob) sto' => if ob.frzOk = true then .ok (.d ob.dat) ⟨st.env, sto'⟩ else .bad
  | .exc e sto' => .exc e ⟨st.env, sto'⟩
  | .bad => .bad) else .bad
def callO (F : Fn) (ws : List Vl) (st : S) : R Ob := if ws.all notOwn = true then (match F ws st.sto with
  | .ok (.o ob) sto' => .ok ob ⟨st.env, sto'⟩
  | .exc e sto' => .exc e ⟨st.env, sto'⟩
  | _ => .bad) else .bad
theorem RW.callee_back {K : PySem.W.Frag} {A : Wd} {H : Hp} {v : V} : ∀ {w : Vl}, RW K A.callee H v w → RW K A H v w
  | .d _, h => RV.mono (Kp.of_live fun a l => live_callee.mpr l) h
  | .frz _, h => RF.mono (Kp.of_live fun a l => live_callee.mpr l) h
  | .kt _, ⟨b, us, h1, h2, h3⟩ => ⟨b, us, h1, h2, h3.mono (Kp.of_live fun a l => live_callee.mpr l)⟩
  | .loc _, h => h
  | .own i, ⟨a, _, h⟩ => by simp [Wd.callee] at h
theorem RE.of_live {K : PySem.W.Frag} {mg : Str → Option Value} {A A' : Wd} {H : Hp} {cls : Value} {d : Option Addr} {e : Exc} (h : ∀ a, A'.live a → A.live a) : RE K mg A H cls d e → RE K mg A' H cls d e
  | ⟨C, h1, h2, h3⟩ => ⟨C, h1, h2, h3.imp id fun ⟨dx, ps, a, b, c, f, g⟩ => ⟨dx, ps, a, fun l => b (h _ l), c, f, g.mono (Kp.of_live h)⟩⟩
/-- how many arguments come -/
def ALen (ms : S → R (List Vl)) (n : Nat) : Prop := ∀ st ws s1, ms st = .ok ws s1 → ws.length = n
theorem alen_nil : ALen aNil 0 := fun _ _ _ e => by cases e; rfl
theorem alen_cons {ma : S → R Vl} {ms : S → R (List Vl)} {n : Nat} (h : ALen ms n) : ALen (aCons ma ms) (n + 1) := fun st ws s1 e => by
  unfold aCons at e
  cases ea : ma st with
  | ok x s2 =>
    rw [ea, R.bind_ok] at e
    cases em : ms s2 with
    | ok xs s3 => rw [em] at e; cases e; simp [h s2 xs _ em]
    | exc x s3 => rw [em] at e; cases e
    | bad => rw [em] at e; cases e
  | exc x s2 => rw [ea] at e; cases e
  | bad => rw [ea] at e; cases e
section
variable {X : Cx} {W : WX} {k : Nat} {f : Addr} {fd : FuncData} {ps : List Str} {F : Fn} {x : Str} {p pos : Pos} {e : Expr} {es : List Expr} {ms : S → R (List Vl)}
theorem ae_call (G : FnOk X.prog X.w X.K X.mg X.base (L2.CX X.prog X.w) k f fd ps (spA X.K X.mg ps.length F)) (hr : Room k X.A) (hg : Gl X x) (hm : X.mg x = some (.ref f)) (hk : PySem.W.keepIn X.K (.ref f) = true) (hb : Binds X.K fd ps []) (tk : Takes X W)
    (ha : AA X W (e :: es) ms) (hl : (e :: es).length = ps.length) (hdb : (x == ("__debug__" : Str)) = false := by decide) (he : starEach (e :: es) X.env = (false, eval e X.env) :: starEach es X.env := by rfl) (hpl : (backTo pos (starEach es X.env)).any (·.1) = false := by rfl)
    (hml : ALen ms ps.length) :
    AE X W (.Call (.Name x p) (e :: es) [] pos) (mCall (callV F) ms) :=
  PE.imp (pe_callSD (E := fun σ cls d H => W cls d σ H) G hr hg hm hk hb .nil (fun σ => passAt tk σ) ha hdb he hpl) fun σ H Q ⟨A, st, sr, q⟩ => ⟨A, st, sr, by
    have hq := q.bind
    cases em : ms st with
    | bad => rw [em] at hq; exact hq
    | exc x s1 => rw [em] at hq; exact hq
    | ok ws s1 =>
      rw [em] at hq
      intro H1 e1 sr1 vs rv
      have p1 := hq H1 e1 sr1
      have hlen := hml st ws s1 em
      dsimp only [callV] at p1
      split at p1
      · rename_i no
        refine ⟨A.callee, s1.sto, ws, rfl, ?_, sr1.callee, by rw [List.append_nil]; exact rv.callee (notOwn_of no), ?_⟩
        · rw [List.append_nil]
          have : vs.length = ws.length := by
            clear p1 hq em hlen no
            induction vs generalizing ws with
            | nil => cases rv; rfl
            | cons v vs ih => cases rv with | cons a b => simp [ih _ b]
          rw [this, hlen]
        · unfold PostF
          split at p1
          · rename_i w sto' ef
            exact fun v H' e' s' r => p1 H' e'.ret (sr1.ret e' s') v r.callee_back
          · rename_i ob sto' ef
            intro a H' na e' s' r
            have s2 := sr1.retO na e' s'
            have r2 : RO X.K (A.push a) H' a ob := r.of_live fun a l => live_push_callee.mpr l
            split at p1
            · rename_i hz
              exact p1 H' e'.ret s2.pop _ ((RO.mono kp_pop rfl r2).frz (nlive sr1 na) hz)
            · exact p1.elim
          · rename_i x sto' ef
            exact fun cls d H' e' s' r => p1 cls d H' e'.ret (sr1.ret e' s') (r.of_live fun a l => live_callee.mpr l)
          · exact p1.elim
      · exact p1.elim⟩
theorem af_call (G : FnOk X.prog X.w X.K X.mg X.base (L2.CX X.prog X.w) k f fd ps (spA X.K X.mg ps.length F)) (hr : Room k X.A) (hg : Gl X x) (hm : X.mg x = some (.ref f)) (hk : PySem.W.keepIn X.K (.ref f) = true) (hb : Binds X.K fd ps []) (tk : Takes X W)
    (ha : AA X W (e :: es) ms) (hl : (e :: es).length = ps.length) (hdb : (x == ("__debug__" : Str)) = false := by decide) (he : starEach (e :: es) X.env = (false, eval e X.env) :: starEach es X.env := by rfl) (hpl : (backTo pos (starEach es X.env)).any (·.1) = false := by rfl)
    (hml : ALen ms ps.length) :
    AF X W (.Call (.Name x p) (e :: es) [] pos) (mCallF (callO F) ms) :=
  PE.imp (pe_callSD (E := fun σ cls d H => W cls d σ H) G hr hg hm hk hb .nil (fun σ => passAt tk σ) ha hdb he hpl) fun σ H Q ⟨A, st, sr, q⟩ => ⟨A, st, sr, by
    have hq := q.bind
    cases em : ms st with
    | bad => rw [em] at hq; exact hq
    | exc x s1 => rw [em] at hq; exact hq
    | ok ws s1 =>
      rw [em] at hq
      intro H1 e1 sr1 vs rv
      have p1 := hq H1 e1 sr1
      have hlen := hml st ws s1 em
      dsimp only [callO] at p1
      split at p1
      · rename_i no
        refine ⟨A.callee, s1.sto, ws, rfl, ?_, sr1.callee, by rw [List.append_nil]; exact rv.callee (notOwn_of no), ?_⟩
        · rw [List.append_nil]
          have : vs.length = ws.length := by
            clear p1 hq em hlen no
            induction vs generalizing ws with
            | nil => cases rv; rfl
            | cons v vs ih => cases rv with | cons a b => simp [ih _ b]
          rw [this, hlen]
        · unfold PostF
          split at p1
          · rename_i ob sto' ef
            rw [ef]
            intro a H' na e' s' r
            have s2 := sr1.retO na e' s'
            exact p1 H' e'.ret s2.pop a (e1.back na) s2 (r.of_live fun a l => live_push_callee.mpr l)
          · rename_i x sto' ef
            rw [ef]
            exact fun cls d H' e' s' r => p1 cls d H' e'.ret (sr1.ret e' s') (r.of_live fun a l => live_callee.mpr l)
          · exact p1.elim
      · exact p1.elim⟩
end
end RA
set_option Elab.async false
set_option linter.all false
set_option maxRecDepth 100000
set_option maxHeartbeats 4000000
namespace RA
open PySem PySem.Spec PyProof.Rows L2

inductive Out where
  | nx (st : S)
  | rt (r : Rt) (st : S)
  | bk (st : S)
  | ct (st : S)
  | exc (e : Exc) (st : S)
  | bad
def R.out {α : Type} : R α → (α → S → Out) → Out
  | .ok x st, f => f x st
  | .exc e st, _ => .exc e st
  | .bad, _ => .bad
@[simp] theorem R.out_ok {α : Type} (x : α) (st : S) (f : α → S → Out) : (R.ok x st).out f = f x st := rfl
@[simp] theorem R.out_exc {α : Type} (e : Exc) (st : S) (f : α → S → Out) : (R.exc e st : R α).out f = .exc e st := rfl
@[simp] theorem R.out_bad {α : Type} (f : α → S → Out) : (R.bad : R α).out f = .bad := rfl
/-- what follows -/
def Out.seq : Out → (S → Out) → Out
  | .nx st, f => f st
  | o, _ => o
@[simp] theorem Out.seq_nx (st : S) (f : S → Out) : (Out.nx st).seq f = f st := rfl
@[simp] theorem Out.seq_rt (r : Rt) (st : S) (f : S → Out) : (Out.rt r st).seq f = .rt r st := rfl
@[simp] theorem Out.seq_bk (st : S) (f : S → Out) : (Out.bk st).seq f = .bk st := rfl
@[simp] theorem Out.seq_ct (st : S) (f : S → Out) : (Out.ct st).seq f = .ct st := rfl
@[simp] theorem Out.seq_exc (e : Exc) (st : S) (f : S → Out) : (Out.exc e st).seq f = .exc e st := rfl
@[simp] theorem Out.seq_bad (f : S → Out) : Out.bad.seq f = .bad := rfl

/-- new, or an own object of here -/
def fr (A : Wd) (H : Hp) (a : Addr) : Prop := a ∉ A.L ∧ a ∉ A.T ∧ (some a ∈ A.O ∨ H a = none)
theorem fr.back {A A1 : Wd} {H H1 : Hp} {a : Addr} (e : Ext A H A1 H1) (f : fr A1 H1 a) : fr A H a := by
  obtain ⟨h1, h2, h3⟩ := f
  obtain ⟨l, el⟩ := e.L
  have n1 : a ∉ A.L := fun z => h1 (by rw [el]; exact List.mem_append.mpr (.inl z))
  have n2 : a ∉ A.T := fun z => h2 (by rw [e.T]; exact z)
  refine ⟨n1, n2, ?_⟩
  rcases h3 with h3 | h3
  · rcases e.kp.fresh a (.inr (.inl h3)) with (h | h | h) | h
    · exact absurd h n1
    · exact .inl h
    · exact absurd h n2
    · exact .inr h
  · exact .inr (e.back h3)
section
variable (K : PySem.W.Frag) (mg : Str → Option Value) (W : WX)
def PostS (A : Wd) (H : Hp) (r : Out) (D : Ends) : Prop :=
  match r with
  | .nx st' => ∀ A' H' σ', Ext A H A' H' → SR K A' H' σ' st' → D.nx σ' H'
  | .bk st' => ∀ A' H' σ', Ext A H A' H' → SR K A' H' σ' st' → D.bk σ' H'
  | .ct st' => ∀ A' H' σ', Ext A H A' H' → SR K A' H' σ' st' → D.ct σ' H'
  | .rt (.v w) st' => ∀ A' H' σ' v, Ext A H A' H' → SR K A' H' σ' st' → RW K A' H' v w → D.rt v H'
  | .rt (.o ob) st' => ∀ A' H' σ' a, fr A H a → Ext A H A' H' → SR K (A'.push a) H' σ' st' → RO K (A'.push a) H' a ob → D.rt (.ref a) H'
  | .exc e st' => ∀ A' H' σ' cls d, Ext A H A' H' → SR K A' H' σ' st' → RE K mg A' H' cls d e → W cls d σ' H'
  | .bad => False
def trS (m : S → Out) : TS := fun D σ H => ∃ A st, SR K A H σ st ∧ PostS K mg W A H (m st) D
end
section
variable {K : PySem.W.Frag} {mg : Str → Option Value} {W : WX} {A A1 : Wd} {H H1 : Hp} {σ : L2.St} {α : Type}
theorem PostS.rebase {r : Out} {D : Ends} (e : Ext A H A1 H1) (h : PostS K mg W A H r D) : PostS K mg W A1 H1 r D := by
  cases r with
  | nx st => exact fun A' H' σ' e' sr => h A' H' σ' (e.trans e') sr
  | bk st => exact fun A' H' σ' e' sr => h A' H' σ' (e.trans e') sr
  | ct st => exact fun A' H' σ' e' sr => h A' H' σ' (e.trans e') sr
  | rt r st =>
    cases r with
    | v w => exact fun A' H' σ' v e' sr rw => h A' H' σ' v (e.trans e') sr rw
    | o ob => exact fun A' H' σ' a f e' sr ro => h A' H' σ' a (f.back e) (e.trans e') sr ro
  | exc x st => exact fun A' H' σ' cls d e' sr re => h A' H' σ' cls d (e.trans e') sr re
  | bad => exact h
theorem PostS.of {r : R α} {f : α → S → Out} {D : Ends} (h : PostS K mg W A H (r.out f) D) : PostX K mg W A H σ r (fun x st1 H1 => PostS K mg W A H1 (f x st1) D) := by
  cases r with
  | ok x st => exact fun H' e' sr => PostS.rebase e'.ext h
  | exc x st => exact fun cls d H' e sr re => h A H' σ cls d e.ext sr re
  | bad => exact h
end
theorem PostS.keep {K : PySem.W.Frag} {mg : Str → Option Value} {W : WX} {A : Wd} {H : Hp} {σ : L2.St} {α : Type} {r : R α} {f : α → S → Out} {D : Ends} (h : PostS K mg W A H (r.out f) D) : PostX K mg W A H σ r (fun x st1 H1 => Stp A H H1 ∧ PostS K mg W A H (f x st1) D) := by
  cases r with
  | ok x st => exact fun H' e' sr => ⟨e', h⟩
  | exc x st => exact fun cls d H' e sr re => h A H' σ cls d e.ext sr re
  | bad => exact h
abbrev AS (X : Cx) (W : WX) (st : Stmt) (m : S → Out) : Prop := PS X st (trS X.K X.mg W m)
abbrev ASs (X : Cx) (W : WX) (st : List Stmt) (m : S → Out) : Prop := PSs X st (trS X.K X.mg W m)

/-! ### slots set -/
def S.set (st : S) (i : Nat) (s : Sl) : S := ⟨st.env.set i s, st.sto⟩
section
variable {K : PySem.W.Frag} {A : Wd} {H : Hp} {σ : L2.St} {st : S}
theorem RS.same {A' : Wd} {H' : Hp} {σ' : L2.St} {j : Nat} {s : Sl} (r : RS K A H σ j s) (kp : Kp A H A' H') (hL : ∃ l, A'.L = A.L ++ l) (hO : A'.O[j]? = A.O[j]?) (hs : σ'[j]? = σ[j]?) (ho : ∀ a, A.O[j]? = some (some a) → H' a = H a) : RS K A' H' σ' j s := by
  cases s with
  | un => trivial
  | d x => obtain ⟨v, h1, h2⟩ := r; exact ⟨v, hs.trans h1, h2.mono kp⟩
  | frz x => obtain ⟨v, h1, h2⟩ := r; exact ⟨v, hs.trans h1, h2.mono kp⟩
  | loc n =>
    obtain ⟨a, h1, h2⟩ := r
    obtain ⟨l, el⟩ := hL
    refine ⟨a, hs.trans h1, ?_⟩
    rw [el, List.getElem?_append_left (List.getElem?_eq_some_iff.mp h2).1]
    exact h2
  | own o => obtain ⟨a, h1, h2, h3⟩ := r; exact ⟨a, hs.trans h1, hO.trans h2, h3.mono kp (ho a h2)⟩
/-- a slot that is no own one -/
theorem SR.setS (sr : SR K A H σ st) {i : Nat} {v : V} {s : Sl} (new : i < σ.length → RS K A H (σ.set i (some v)) i s) : SR K A H (σ.set i (some v)) (st.set i s) where
  le := by simp [S.set, sr.le]
  lo := by simp [S.set, sr.lo]
  ll := sr.ll
  sl j t h := by
    by_cases e : i = j
    · subst e
      simp only [S.set] at h
      have hl : i < st.env.length := by
        have := (List.getElem?_eq_some_iff.mp h).1
        simpa using this
      rw [List.getElem?_set_self hl] at h
      cases h
      exact new (by rw [sr.le]; exact hl)
    · simp only [S.set] at h
      rw [List.getElem?_set_ne e] at h
      exact (sr.sl j t h).same (Stp.refl A H).kp ⟨[], by simp⟩ rfl (List.getElem?_set_ne e) fun _ _ => rfl
  so := sr.so
  dj := sr.dj
  hb := sr.hb
theorem SR.setV (sr : SR K A H σ st) {i : Nat} {v : V} {x : D} (r : RV K A H v x) : SR K A H (σ.set i (some v)) (st.set i (.d x)) := sr.setS fun hl => ⟨v, List.getElem?_set_self hl, r⟩
/-- a new object becomes slot i's own -/
def Wd.own (A : Wd) (i : Nat) (a : Addr) : Wd := { A with O := A.O.set i (some a) }
theorem mem_set_own {O : List (Option Addr)} {i : Nat} {o : Option Addr} {b : Addr} (h : some b ∈ O.set i o) : o = some b ∨ some b ∈ O := by
  rcases List.mem_or_eq_of_mem_set h with h | h
  · exact .inr h
  · exact .inl h.symm
theorem get_set_own {O : List (Option Addr)} {i j : Nat} {o : Option Addr} {b : Addr} (h : (O.set i o)[j]? = some (some b)) : (j = i ∧ o = some b) ∨ (j ≠ i ∧ O[j]? = some (some b)) := by
  by_cases e : i = j
  · subst e
    have hl := (List.getElem?_eq_some_iff.mp h).1
    rw [List.length_set] at hl
    rw [List.getElem?_set_self hl] at h
    cases h
    exact .inl ⟨rfl, rfl⟩
  · rw [List.getElem?_set_ne e] at h
    exact .inr ⟨fun z => e z.symm, h⟩
theorem live_own {i : Nat} {a b : Addr} (h : (A.own i a).live b) : (A.push a).live b := by
  rcases h with h | h | h
  · exact .inl h
  · rcases mem_set_own h with h | h
    · cases h; exact live_push.mpr (.inl rfl)
    · exact .inr (.inl h)
  · exact .inr (.inr (List.mem_cons_of_mem _ h))
theorem SR.setO (sr : SR K (A.push a) H σ st) {i : Nat} {ob : Ob} (ro : RO K (A.push a) H a ob) (na : ¬ A.live a) : SR K (A.own i a) H (σ.set i (some (.ref a))) (st.set i (.own ob)) where
  le := by simp [S.set, sr.le]
  lo := by
    have := sr.lo
    simp only [Wd.push] at this
    simp [S.set, Wd.own, this]
  ll := sr.ll
  sl j t h := by
    have kp : Kp (A.push a) H (A.own i a) H := Kp.of_live fun _ => live_own
    have hlo : A.O.length = st.env.length := sr.lo
    by_cases e : i = j
    · subst e
      simp only [S.set] at h
      have hl : i < st.env.length := by
        have := (List.getElem?_eq_some_iff.mp h).1
        simpa using this
      rw [List.getElem?_set_self hl] at h
      cases h
      exact ⟨a, List.getElem?_set_self (by rw [sr.le]; exact hl), List.getElem?_set_self (by rw [hlo]; exact hl), ro.mono kp rfl⟩
    · simp only [S.set] at h
      rw [List.getElem?_set_ne e] at h
      exact (sr.sl j t h).same kp ⟨[], by simp [Wd.own, Wd.push]⟩ (List.getElem?_set_ne e) (List.getElem?_set_ne e) fun _ _ => rfl
  so n o h := by
    obtain ⟨b, h1, h2⟩ := sr.so n o h
    exact ⟨b, h1, h2.of_live fun _ => live_own⟩
  dj := {
    LL := sr.dj.LL
    OO := fun x y b hx hy => by
      rcases get_set_own hx with ⟨ex, zx⟩ | ⟨nx, zx⟩ <;> rcases get_set_own hy with ⟨ey, zy⟩ | ⟨ny, zy⟩
      · rw [ex, ey]
      · cases zx; exact absurd (.inr (.inl (List.mem_of_getElem? zy))) na
      · cases zy; exact absurd (.inr (.inl (List.mem_of_getElem? zx))) na
      · exact sr.dj.OO x y b zx zy
    LO := fun b l o => by
      rcases mem_set_own o with z | o
      · cases z; exact na (.inl l)
      · exact sr.dj.LO b l o
    LT := fun b l t => sr.dj.LT b l (List.mem_cons_of_mem _ t)
    OT := fun b o t => by
      rcases mem_set_own o with z | o
      · cases z; exact na (.inr (.inr t))
      · exact sr.dj.OT b o (List.mem_cons_of_mem _ t)
    dm := fun b l => sr.dj.dm b (live_own l) }
  hb := sr.hb
/-- a new object becomes a cell of the store -/
def Wd.add (A : Wd) (a : Addr) : Wd := { A with L := A.L ++ [a] }
theorem live_add {a b : Addr} (h : (A.add a).live b) : (A.push a).live b := by
  rcases h with h | h | h
  · rcases List.mem_append.mp h with h | h
    · exact .inl h
    · exact live_push.mpr (.inl (List.mem_singleton.mp h))
  · exact .inr (.inl h)
  · exact .inr (.inr (List.mem_cons_of_mem _ h))
theorem SR.addL (sr : SR K (A.push a) H σ st) {ob : Ob} (ro : RO K (A.push a) H a ob) (na : ¬ A.live a) : SR K (A.add a) H σ ⟨st.env, st.sto ++ [ob]⟩ where
  le := sr.le
  lo := sr.lo
  ll := by
    have := sr.ll
    simp only [Wd.push] at this
    simp [Wd.add, this]
  sl j t h := (sr.sl j t h).same (Kp.of_live fun _ => live_add) ⟨[a], rfl⟩ rfl rfl fun _ _ => rfl
  so n o h := by
    have hll : A.L.length = st.sto.length := sr.ll
    by_cases hn : n < st.sto.length
    · rw [List.getElem?_append_left hn] at h
      obtain ⟨b, h1, h2⟩ := sr.so n o h
      refine ⟨b, ?_, h2.of_live fun _ => live_add⟩
      show (A.L ++ [a])[n]? = some b
      rw [List.getElem?_append_left (by rw [hll]; exact hn)]
      exact h1
    · rw [List.getElem?_append_right (by omega)] at h
      have hn0 : n - st.sto.length = 0 := by
        have := (List.getElem?_eq_some_iff.mp h).1
        simp at this
        omega
      rw [hn0] at h
      cases h
      refine ⟨a, ?_, ro.of_live fun _ => live_add⟩
      show (A.L ++ [a])[n]? = some a
      rw [List.getElem?_append_right (by omega), hll, hn0]
      rfl
  dj := {
    LL := fun x y b hx hy => by
      have key : ∀ z, (A.L ++ [a])[z]? = some b → (A.L[z]? = some b ∧ b ≠ a) ∨ (z = A.L.length ∧ b = a) := fun z hz => by
        by_cases hl : z < A.L.length
        · rw [List.getElem?_append_left hl] at hz
          exact .inl ⟨hz, fun e => na (.inl (e ▸ List.mem_of_getElem? hz))⟩
        · rw [List.getElem?_append_right (by omega)] at hz
          have hz0 : z - A.L.length = 0 := by
            have := (List.getElem?_eq_some_iff.mp hz).1
            simp at this
            omega
          rw [hz0] at hz
          cases hz
          exact .inr ⟨by omega, rfl⟩
      rcases key x hx with ⟨h1, n1⟩ | ⟨h1, n1⟩ <;> rcases key y hy with ⟨h2, n2⟩ | ⟨h2, n2⟩
      · exact sr.dj.LL x y b h1 h2
      · exact absurd n2 n1
      · exact absurd n1 n2
      · rw [h1, h2]
    OO := sr.dj.OO
    LO := fun b l o => by
      rcases List.mem_append.mp l with l | l
      · exact sr.dj.LO b l o
      · rw [List.mem_singleton] at l; subst l; exact na (.inr (.inl o))
    LT := fun b l t => by
      rcases List.mem_append.mp l with l | l
      · exact sr.dj.LT b l (List.mem_cons_of_mem _ t)
      · rw [List.mem_singleton] at l; subst l; exact na (.inr (.inr t))
    OT := fun b o t => sr.dj.OT b o (List.mem_cons_of_mem _ t)
    dm := fun b l => sr.dj.dm b (live_add l) }
  hb := sr.hb
theorem ext_own {H' : Hp} {i : Nat} {a : Addr} (e : Stp A H H') (na : H a = none) : Ext A H (A.own i a) H' where
  kp := ⟨e.keep, fun b l => (live_push.mp (live_own l)).elim (fun z => .inr (z ▸ na)) .inl⟩
  T := rfl
  keepT := e.keepT
  L := ⟨[], by simp [Wd.own]⟩
  dom := e.dom
theorem ext_add {H' : Hp} {a : Addr} (e : Stp A H H') (na : H a = none) : Ext A H (A.add a) H' where
  kp := ⟨e.keep, fun b l => (live_push.mp (live_add l)).elim (fun z => .inr (z ▸ na)) .inl⟩
  T := rfl
  keepT := e.keepT
  L := ⟨[a], rfl⟩
  dom := e.dom
/-- an own object that no longer changes -/
def S.freeze (st : S) (i : Nat) : S := match st.env[i]? with
  | some (.own ob) => if ob.frzOk = true then st.set i (.d ob.dat) else st
  | _ => st
def Wd.drop (A : Wd) (i : Nat) : Wd := { A with O := A.O.set i none }
theorem live_drop {i : Nat} {b : Addr} (h : (A.drop i).live b) : A.live b := by
  rcases h with h | h | h
  · exact .inl h
  · rcases mem_set_own h with h | h
    · cases h
    · exact .inr (.inl h)
  · exact .inr (.inr h)
theorem ext_drop {i : Nat} : Ext A H (A.drop i) H := ⟨Kp.of_live fun _ => live_drop, rfl, fun _ _ => rfl, ⟨[], by simp [Wd.drop]⟩, fun _ h => h⟩
theorem Dj.drop {i : Nat} (dj : Dj A H) : Dj (A.drop i) H where
  LL := dj.LL
  OO x y b hx hy := by
    rcases get_set_own hx with ⟨_, hx⟩ | ⟨_, hx⟩
    · cases hx
    · rcases get_set_own hy with ⟨_, hy⟩ | ⟨_, hy⟩
      · cases hy
      · exact dj.OO x y b hx hy
  LO b l o := (mem_set_own o).elim (fun z => nomatch z) (dj.LO b l)
  LT := dj.LT
  OT b o t := (mem_set_own o).elim (fun z => nomatch z) (fun o => dj.OT b o t)
  dm b l := dj.dm b (live_drop l)
/-- the slot lets its own object go -/
theorem SR.letgoW (sr : SR K A H σ st) {A' : Wd} {i : Nat} {s : Sl} (hv : ∀ b, A'.live b → A.live b) (hL : A'.L = A.L) (hO : A'.O = A.O.set i none) (dj : Dj A' H) (new : i < st.env.length → RS K A' H σ i s) : SR K A' H σ (st.set i s) where
  le := by simp [S.set, sr.le]
  lo := by simp [S.set, hO, sr.lo]
  ll := by rw [hL]; exact sr.ll
  sl j t h := by
    by_cases e : i = j
    · subst e
      simp only [S.set] at h
      have hl : i < st.env.length := by
        have := (List.getElem?_eq_some_iff.mp h).1
        simpa using this
      rw [List.getElem?_set_self hl] at h
      cases h
      exact new hl
    · simp only [S.set] at h
      rw [List.getElem?_set_ne e] at h
      exact (sr.sl j t h).same (Kp.of_live hv) ⟨[], by simp [hL]⟩ (by rw [hO]; exact List.getElem?_set_ne e) rfl fun _ _ => rfl
  so n o h := by
    obtain ⟨b, h1, h2⟩ := sr.so n o h
    exact ⟨b, by rw [hL]; exact h1, h2.of_live hv⟩
  dj := dj
  hb := sr.hb
theorem SR.letgo (sr : SR K A H σ st) {i : Nat} {s : Sl} (new : i < st.env.length → RS K (A.drop i) H σ i s) : SR K (A.drop i) H σ (st.set i s) := sr.letgoW (fun _ => live_drop) rfl rfl sr.dj.drop new
theorem not_live_drop (sr : SR K A H σ st) {i : Nat} {a : Addr} (h : A.O[i]? = some (some a)) : ¬ (A.drop i).live a := by
  rintro (l | l | l)
  · exact sr.dj.LO a l (List.mem_of_getElem? h)
  · obtain ⟨j, hj⟩ := List.mem_iff_getElem?.mp l
    rcases get_set_own hj with ⟨_, z⟩ | ⟨n, z⟩
    · cases z
    · exact n (sr.dj.OO j i a z h)
  · exact sr.dj.OT a (List.mem_of_getElem? h) l
theorem SR.frz (sr : SR K A H σ st) (i : Nat) : ∃ A', Ext A H A' H ∧ SR K A' H σ (st.freeze i) := by
  unfold S.freeze
  split
  · rename_i ob e
    obtain ⟨a, h1, h2, h3⟩ := sr.sl i _ e
    split
    · rename_i hz
      exact ⟨A.drop i, ext_drop, sr.letgo fun _ => ⟨_, h1, (h3.of_live fun _ => live_drop).frz (not_live_drop sr h2) hz⟩⟩
    · exact ⟨A, Ext.refl A H, sr⟩
  · exact ⟨A, Ext.refl A H, sr⟩
end

/-! ### statements -/
section
variable {X : Cx} {W : WX} {e : Expr} {st : Stmt} {rest : List Stmt} {pos : Pos} {ma : S → R Vl} {m1 m2 : S → Out}
def sNil : S → Out := fun st => .nx st
def sSeq (m1 m2 : S → Out) : S → Out := fun st => (m1 st).seq m2
theorem ass_nil : ASs X W [] sNil := PSs.imp pss_nil fun D σ H ⟨A, s, sr, p⟩ => p A H σ (Ext.refl A H) sr
theorem ass_one (h1 : AS X W st m1) : ASs X W [st] m1 := pss_one h1
theorem ass_cons (h1 : AS X W st m1) (h2 : ASs X W rest m2) : ASs X W (st :: rest) (sSeq m1 m2) :=
  PSs.imp (pss_cons h1 h2) fun D σ H ⟨A, s, sr, p⟩ => ⟨A, s, sr, by
    unfold sSeq at p
    cases h : m1 s with
    | nx s1 => rw [h] at p; exact fun A' H' σ' ex sr' => ⟨A', s1, sr', p.rebase ex⟩
    | rt r s1 =>
      rw [h] at p
      cases r with
      | v w => exact p
      | o ob => exact p
    | bk s1 => rw [h] at p; exact p
    | ct s1 => rw [h] at p; exact p
    | exc x s1 => rw [h] at p; exact p
    | bad => rw [h] at p; exact p⟩
theorem as_frz (i : Nat) (h : AS X W st m1) : AS X W st (fun s => m1 (s.freeze i)) :=
  PS.imp h fun D σ H ⟨A, s, sr, p⟩ => by
    obtain ⟨A', ex, sr'⟩ := sr.frz i
    exact ⟨A', _, sr', p.rebase ex⟩
theorem ass_imp {m : S → Out} (h : ASs X W rest m1) (w : ∀ s, m s = m1 s) : ASs X W rest m := PSs.imp h fun D σ H ⟨A, s, sr, p⟩ => ⟨A, s, sr, w s ▸ p⟩
theorem as_pass : AS X W (.Pass pos) sNil := PS.imp ps_pass fun D σ H ⟨A, s, sr, p⟩ => p A H σ (Ext.refl A H) sr
def sBreak : S → Out := fun st => .bk st
def sCont : S → Out := fun st => .ct st
theorem as_break : AS X W (.Break pos) sBreak := PS.imp ps_break fun D σ H ⟨A, s, sr, p⟩ => p A H σ (Ext.refl A H) sr
theorem as_continue : AS X W (.Continue pos) sCont := PS.imp ps_continue fun D σ H ⟨A, s, sr, p⟩ => p A H σ (Ext.refl A H) sr
def sBad : S → Out := fun _ => .bad
theorem as_bad : AS X W st sBad := PS.imp ps_never fun D σ H ⟨A, s, sr, p⟩ => p
theorem ass_bad : ASs X W rest sBad := PSs.imp pss_never fun D σ H ⟨A, s, sr, p⟩ => p
def sExpr (ma : S → R Vl) : S → Out := fun st => (ma st).out fun _ s1 => .nx s1
theorem as_expr (ha : AE X W e ma) (hs : swapsWith e none pos.line X.env = pure false := by rfl) : AS X W (.Expr e pos) (sExpr ma) :=
  PS.imp (ps_expr ha hs) fun D σ H ⟨A, s, sr, p⟩ => ⟨A, s, sr, p.of.imp fun w s1 H1 e1 sr1 p1 v rv => p1 A H1 σ (Ext.refl A H1) sr1⟩
def sRet (ma : S → R Vl) : S → Out := fun st => (ma st).out fun w s1 => .rt (.v w) s1
theorem as_ret (ha : AE X W e ma) : AS X W (.Return (some e) pos) (sRet ma) :=
  PS.imp (ps_ret ha) fun D σ H ⟨A, s, sr, p⟩ => ⟨A, s, sr, p.of.imp fun w s1 H1 e1 sr1 p1 v rv => p1 A H1 σ v (Ext.refl A H1) sr1 rv⟩
def sRetN : S → Out := fun st => .rt (.v (.d .none)) st
theorem as_retN : AS X W (.Return none pos) sRetN :=
  PS.imp ps_retN fun D σ H ⟨A, s, sr, p⟩ => p A H σ .non (Ext.refl A H) sr .non
def sRetF (ma : S → R Ob) : S → Out := fun st => (ma st).out fun ob s1 => .rt (.o ob) s1
theorem as_retF {ma : S → R Ob} (ha : AF X W e ma) : AS X W (.Return (some e) pos) (sRetF ma) :=
  PS.imp (ps_ret ha) fun D σ H ⟨A, s, sr, p⟩ => ⟨A, s, sr, (PostS.keep (σ := σ) p).imp fun ob s1 H1 e1 sr1 p1 a na sra ro =>
    p1.2 A H1 σ a ⟨fun l => sr.dj.dm a (.inl l) na, fun l => sr.dj.dm a (.inr (.inr l)) na, .inr na⟩ e1.ext sra ro⟩
/-- return of an own object -/
def sRetO (i : Nat) : S → Out := fun st => match st.env[i]? with
  | some (.own ob) => .rt (.o ob) (st.set i .un)
  | _ => .bad
theorem as_retO {i : Nat} (p : PE X e (tVar i)) : AS X W (.Return (some e) pos) (sRetO i) :=
  PS.imp (ps_ret p) fun D σ H ⟨A, s, sr, q⟩ => by
    unfold sRetO at q
    split at q
    · rename_i ob eo
      obtain ⟨a, h1, h2, h3⟩ := sr.sl i _ eo
      have mo := List.mem_of_getElem? h2
      have hv : ∀ b, ((A.drop i).push a).live b → A.live b := fun b l => (live_push.mp l).elim (fun z => z ▸ .inr (.inl mo)) live_drop
      have nl := not_live_drop sr h2
      have dd : Dj (A.drop i) H := sr.dj.drop
      have dj : Dj ((A.drop i).push a) H := ⟨dd.LL, dd.OO, dd.LO,
        fun b l t => (List.mem_cons.mp t).elim (fun z => nl (.inl (z ▸ l))) (dd.LT b l),
        fun b o t => (List.mem_cons.mp t).elim (fun z => nl (.inr (.inl (z ▸ o)))) (dd.OT b o),
        fun b l => sr.dj.dm b (hv b l)⟩
      have sr2 : SR X.K ((A.drop i).push a) H σ (s.set i .un) := sr.letgoW hv rfl rfl dj fun _ => trivial
      exact ⟨_, h1, q (A.drop i) H σ a ⟨fun l => nl (.inl l), fun l => nl (.inr (.inr l)), .inl mo⟩ ext_drop sr2 (h3.of_live hv)⟩
    · exact q.elim
/-! assignments -/
def slOf : Vl → Option Sl
  | .d x => some (.d x)
  | .loc n => some (.loc n)
  | .frz ds => some (.frz ds)
  | _ => none
def setW (i : Nat) (w : Vl) (st : S) : Option S := (slOf w).map fun s => st.set i s
theorem setW_ok {K : PySem.W.Frag} {A : Wd} {H : Hp} {σ : L2.St} {st s1 : S} {i : Nat} {w : Vl} {v : V} (sr : SR K A H σ st) (r : RW K A H v w) (e : setW i w st = some s1) : SR K A H (σ.set i (some v)) s1 := by
  cases w with
  | d x => cases e; exact sr.setV r
  | loc n =>
    cases e
    obtain ⟨a, rfl, h⟩ := r
    exact sr.setS fun hl => ⟨a, List.getElem?_set_self hl, h⟩
  | frz ds => cases e; exact sr.setS fun hl => ⟨v, List.getElem?_set_self hl, r⟩
  | own j => cases e
  | kt j => cases e
def sSet (i : Nat) (ma : S → R Vl) : S → Out := fun st => (ma st).out fun w s1 => match setW i w s1 with
  | some s2 => .nx s2
  | none => .bad
theorem tr_set {i : Nat} {K : PySem.W.Frag} {mg : Str → Option Value} {D : Ends} {σ : L2.St} {H : Hp} (h : trS K mg W (sSet i ma) D σ H) : tAsg (tr K mg W ma) (gName i) D σ H := by
  obtain ⟨A, s, sr, p⟩ := h
  exact ⟨A, s, sr, (PostS.of p).imp fun w s1 H1 e1 sr1 p1 v rv => by
    split at p1
    · rename_i s2 e
      exact p1 A H1 _ (Ext.refl A H1) (setW_ok sr1 rv e)
    · exact p1.elim⟩
theorem as_set {i : Nat} (p : PS X st (tAsg (tr X.K X.mg W ma) (gName i))) : AS X W st (sSet i ma) := PS.imp p fun D σ H h => tr_set h
/-- a new object into its slot -/
def sOwn (i : Nat) (ma : S → R Ob) : S → Out := fun st => (ma st).out fun ob s1 => .nx (s1.set i (.own ob))
theorem tr_own {i : Nat} {ma : S → R Ob} {K : PySem.W.Frag} {mg : Str → Option Value} {D : Ends} {σ : L2.St} {H : Hp} (h : trS K mg W (sOwn i ma) D σ H) : tAsg (trF K mg W ma) (gName i) D σ H := by
  obtain ⟨A, s, sr, p⟩ := h
  exact ⟨A, s, sr, (PostS.keep (σ := σ) p).imp fun ob s1 H1 e1 sr1 p1 a na sra ro => p1.2 (A.own i a) H1 _ (ext_own e1 na) (sra.setO ro (nlive sr na))⟩
theorem as_own {i : Nat} {ma : S → R Ob} (p : PS X st (tAsg (trF X.K X.mg W ma) (gName i))) : AS X W st (sOwn i ma) := PS.imp p fun D σ H h => tr_own h
def sLoc (i : Nat) (ma : S → R Ob) : S → Out := fun st => (ma st).out fun ob s1 => .nx ⟨s1.env.set i (.loc s1.sto.length), s1.sto ++ [ob]⟩
theorem tr_loc {i : Nat} {ma : S → R Ob} {K : PySem.W.Frag} {mg : Str → Option Value} {D : Ends} {σ : L2.St} {H : Hp} (h : trS K mg W (sLoc i ma) D σ H) : tAsg (trF K mg W ma) (gName i) D σ H := by
  obtain ⟨A, s, sr, p⟩ := h
  exact ⟨A, s, sr, (PostS.keep (σ := σ) p).imp fun ob s1 H1 e1 sr1 p1 a na sra ro => by
    have s2 := sra.addL ro (nlive sr na)
    refine p1.2 (A.add a) H1 _ (ext_add e1 na) (SR.setS s2 (s := .loc s1.sto.length) fun hl => ⟨a, List.getElem?_set_self hl, ?_⟩)
    show (A.L ++ [a])[s1.sto.length]? = some a
    rw [← sr1.ll, List.getElem?_append_right (Nat.le_refl _), Nat.sub_self]
    rfl⟩
theorem as_loc {i : Nat} {ma : S → R Ob} (p : PS X st (tAsg (trF X.K X.mg W ma) (gName i))) : AS X W st (sLoc i ma) := PS.imp p fun D σ H h => tr_loc h
def sIf (t : S → R Bool) (m1 m2 : S → Out) : S → Out := fun st => (t st).out fun c s1 => if c = true then m1 s1 else m2 s1
theorem as_if {c : Expr} {a b : List Stmt} {t : S → R Bool} (hc : AT X W c t) (ha : ASs X W a m1) (hb : ASs X W b m2) : AS X W (.If c a b pos) (sIf t m1 m2) :=
  PS.imp (ps_if hc ha hb) fun D σ H ⟨A, s, sr, p⟩ => ⟨A, s, sr, p.of.imp fun c s1 H1 e1 sr1 p1 => by
    cases c with
    | true => exact ⟨A, s1, sr1, p1⟩
    | false => exact ⟨A, s1, sr1, p1⟩⟩
/-- while, with fuel -/
def loopW (c : S → R Bool) (body : S → Out) : Nat → S → Out
  | 0, _ => .bad
  | n + 1, st => (c st).out fun b s1 => if b = true then (match body s1 with
    | .nx s2 => loopW c body n s2
    | .ct s2 => loopW c body n s2
    | .bk s2 => .nx s2
    | o => o) else .nx s1
theorem as_while {c : Expr} {body : List Stmt} {t : S → R Bool} {mb : S → Out} (n : Nat) (hp : PassesOwn (model X.prog X.w) X.A X.env X.xe) (hc : AT X W c t) (hb : ASs X W body mb) : AS X W (.While c body [] pos) (loopW t mb n) :=
  PS.imp (ps_while hp hc hb) fun D σ H ⟨A, s, sr, p⟩ => by
    refine ⟨fun m σ H => ∃ A s, SR X.K A H σ s ∧ PostS X.K X.mg W A H (loopW t mb m s) D, ⟨n, A, s, sr, p⟩, ?_⟩
    rintro m σ H ⟨A, s, sr, p⟩
    cases m with
    | zero => exact p.elim
    | succ m =>
      refine ⟨A, s, sr, (PostS.of p).imp fun b s1 H1 e1 sr1 p1 => ?_⟩
      cases b with
      | false => exact p1 A H1 σ (Ext.refl A H1) sr1
      | true =>
        refine ⟨fun σ' H' => ∃ A s, SR X.K A H' σ' s ∧ PostS X.K X.mg W A H' (loopW t mb m s) D, fun σ' H' h => ⟨m, Nat.lt_succ_self m, h⟩, A, s1, sr1, ?_⟩
        rw [if_pos rfl] at p1
        cases h : mb s1 with
        | nx s2 => rw [h] at p1; exact fun A' H' σ' ex sr' => ⟨A', s2, sr', p1.rebase ex⟩
        | ct s2 => rw [h] at p1; exact fun A' H' σ' ex sr' => ⟨A', s2, sr', p1.rebase ex⟩
        | bk s2 => rw [h] at p1; exact p1
        | rt r s2 => rw [h] at p1; cases r <;> exact p1
        | exc x s2 => rw [h] at p1; exact p1
        | bad => rw [h] at p1; exact p1
end
end RA
set_option Elab.async false
set_option linter.all false
set_option maxRecDepth 100000
set_option maxHeartbeats 4000000
namespace RA
open PySem PySem.Spec PyProof.Rows L2

/-! ### what is walked -/
structure ItOk (K : PySem.W.Frag) (J : It) (A₀ : Wd) (H₀ : Hp) (items : List D) (chk : S → Prop) (fix : Bool) : Prop where
  sz : items.length ≤ sizeLine
  go : ∀ i A H σ st, i < items.length → Kp A₀ H₀ A H → (fix = true → A.O = A₀.O ∧ A.L = A₀.L) → SR K A H σ st → chk st → J.go i H
  stop : ∀ A H σ st, Kp A₀ H₀ A H → (fix = true → A.O = A₀.O ∧ A.L = A₀.L) → SR K A H σ st → chk st → J.stop items.length H
  yld : ∀ i A H σ st x H', i < items.length → Kp A₀ H₀ A H → (fix = true → A.O = A₀.O ∧ A.L = A₀.L) → SR K A H σ st → chk st → J.yld i H x H' → Stp A H H' ∧ SR K A H' σ st ∧ ∃ d, items[i]? = some d ∧ RV K A H' x d
structure Src where
  items : List D
  chk : S → Prop
  fix : Bool
def trI (K : PySem.W.Frag) (mg : Str → Option Value) (W : WX) (m : S → R Src) : TI := fun σ H Q => trX K mg W m (fun A _ p _ H' => ∀ J, ItOk K J A H' p.items p.chk p.fix → Q J H') σ H
abbrev AI (X : Cx) (W : WX) (tg iter : Expr) (m : S → R Src) : Prop := PI X tg iter (trI X.K X.mg W m)
/-- a target: what is bound, the slots that are stored -/
def SetOn (is : List Nat) (σ σ' : L2.St) : Prop := σ'.length = σ.length ∧ ∀ j, j ∉ is → σ'[j]? = σ[j]?
def trG (K : PySem.W.Frag) (bind : D → S → Option S) (is : List Nat) : TG := fun v σ H Q => ∃ A st x, SR K A H σ st ∧ RV K A H v x ∧ match bind x st with
  | some st' => ∀ σ', SR K A H σ' st' → SetOn is σ σ' → Q σ' H
  | none => False
abbrev AG (X : Cx) (tg : Expr) (bind : D → S → Option S) (is : List Nat) : Prop := PG X tg (trG X.K bind is)
def trGs (K : PySem.W.Frag) (bind : List D → S → Option S) (is : List Nat) : TGs := fun vs σ H Q => ∃ A st xs, SR K A H σ st ∧ RVs K A H vs xs ∧ match bind xs st with
  | some st' => ∀ σ', SR K A H σ' st' → SetOn is σ σ' → Q σ' H
  | none => False
abbrev AGs (X : Cx) (tgs : List Expr) (bind : List D → S → Option S) (is : List Nat) : Prop := PGs X tgs (trGs X.K bind is)
theorem PG.imp {X : Cx} {e : Expr} {t t' : TG} (p : PG X e t) (w : ∀ v σ H Q, t' v σ H Q → t v σ H Q) : PG X e t' := ⟨fun pins s σ H v u Q I r h => p.run pins s σ H v u Q I r (w v σ H Q h)⟩
theorem PGs.imp {X : Cx} {e : List Expr} {t t' : TGs} (p : PGs X e t) (w : ∀ v σ H Q, t' v σ H Q → t v σ H Q) : PGs X e t' := ⟨fun pins s σ H v u Q I r h => p.run pins s σ H v u Q I r (w v σ H Q h)⟩
theorem PI.imp {X : Cx} {tg e : Expr} {t t' : TI} (p : PI X tg e t) (w : ∀ σ H Q, t' σ H Q → t σ H Q) : PI X tg e t' := ⟨fun pins s σ H Q I h => p.run pins s σ H Q I (w σ H Q h)⟩
section
variable {X : Cx} {W : WX} {e tg iter : Expr} {pos : Pos}
def bName (i : Nat) : D → S → Option S := fun x st => some (st.set i (.d x))
theorem ag_name {i : Nat} (p : PG X e (gName i)) : AG X e (bName i) [i] := PG.imp p fun v σ H Q ⟨A, st, x, sr, rv, h⟩ =>
  h _ (sr.setV rv) ⟨by simp, fun j hj => List.getElem?_set_ne fun z => hj (by simp [z])⟩
def bNil : List D → S → Option S
  | [], st => some st
  | _, _ => none
def bCons (b : D → S → Option S) (bs : List D → S → Option S) : List D → S → Option S
  | x :: xs, st => (b x st).bind fun s1 => bs xs s1
  | [], _ => none
theorem ags_nil : AGs X [] bNil [] := PGs.imp pgs_nil fun vs σ H Q ⟨A, st, xs, sr, rv, h⟩ => by
  cases xs with
  | nil => cases rv; exact ⟨rfl, h σ sr ⟨rfl, fun _ _ => rfl⟩⟩
  | cons x xs => exact h.elim
theorem ags_cons {e : Expr} {es : List Expr} {b : D → S → Option S} {bs : List D → S → Option S} {is js : List Nat} (h1 : AG X e b is) (h2 : AGs X es bs js)
    (hs : (assignEach (e :: es) X.env).map (·.2) = assign e X.env :: (assignEach es X.env).map (·.2) := by rfl) : AGs X (e :: es) (bCons b bs) (is ++ js) :=
  PGs.imp (pgs_cons h1 h2 hs) fun vs σ H Q ⟨A, st, xs, sr, rv, h⟩ => by
    cases xs with
    | nil => exact h.elim
    | cons x xs =>
      cases rv with
      | cons r1 r2 =>
        refine ⟨_, _, rfl, A, st, x, sr, r1, ?_⟩
        simp only [bCons] at h
        cases hb : b x st with
        | none => rw [hb] at h; exact h
        | some s1 =>
          rw [hb] at h
          intro σ1 sr1 so1
          refine ⟨A, s1, xs, sr1, r2, ?_⟩
          simp only [Option.bind_some] at h
          cases hbs : bs xs s1 with
          | none => rw [hbs] at h; exact h
          | some s2 =>
            rw [hbs] at h
            exact fun σ2 sr2 so2 => h σ2 sr2 ⟨so2.1.trans so1.1, fun j hj => (so2.2 j fun z => hj (List.mem_append.mpr (.inr z))).trans (so1.2 j fun z => hj (List.mem_append.mpr (.inl z)))⟩
def bTup (n : Nat) (bs : List D → S → Option S) : D → S → Option S
  | .tuple xs, st => if xs.length = n then bs xs st else none
  | _, _ => none
theorem ag_tup {es : List Expr} {k n : Nat} {bs : List D → S → Option S} {is : List Nat} (hc : X.calm = true) (h : AGs X es bs is)
    (hn : (assignEach es X.env).length = n := by rfl) (hst : (assignEach es X.env).findIdx? (·.1) = none := by rfl) : AG X (.Tuple es k pos) (bTup n bs) is :=
  PG.imp (pg_tup hc h hn hst) fun v σ H Q ⟨A, st, x, sr, rv, h⟩ => by
    unfold bTup at h
    cases x with
    | tuple xs =>
      obtain ⟨a, vs, rfl, ht, rvs⟩ := tup_at rv
      simp only at h
      split at h
      · rename_i st' hb
        split at hb
        · rename_i hl
          refine ⟨a, vs, rfl, ht, by rw [rvs.length]; exact hl, A, st, xs, sr, rvs, ?_⟩
          rw [hb]
          exact h
        · cases hb
      · exact h.elim
    | none => exact h.elim
    | bool b => exact h.elim
    | int b => exact h.elim
    | str b => exact h.elim
    | list b => exact h.elim
    | dict b => exact h.elim
/-! ### for -/
open Classical in
noncomputable def loopS (bind : D → S → Option S) (chk : S → Prop) (body : S → Out) : List D → S → Out
  | [], st => if chk st then .nx st else .bad
  | x :: xs, st => if chk st then (match bind x st with
    | none => .bad
    | some s1 => match body s1 with
      | .nx s2 => loopS bind chk body xs s2
      | .ct s2 => loopS bind chk body xs s2
      | .bk s2 => .nx s2
      | o => o) else .bad
noncomputable def sFor (mi : S → R Src) (bind : D → S → Option S) (body : S → Out) : S → Out := fun st => (mi st).out fun p s1 => if p.fix = true then .bad else loopS bind p.chk body p.items s1
theorem as_for {body : List Stmt} {mi : S → R Src} {bind : D → S → Option S} {is : List Nat} {mb : S → Out} (hp : PassesOwn (model X.prog X.w) X.A X.env X.xe) (hc : X.calm = true) (hi : AI X W tg iter mi) (hg : AG X tg bind is) (hb : ASs X W body mb)
    (hs : ∀ x, foldedSetIterable iter X.env x = pure x := by intro _; rfl) : AS X W (.For tg iter body [] pos) (sFor mi bind mb) :=
  PS.imp (ps_for hp hc hi hg hb hs) fun D σ H ⟨A, s, sr, p⟩ => ⟨A, s, sr, (PostS.of p).imp fun src s1 H1 e1 sr1 p1 J ok => by
    split at p1
    · exact p1.elim
    rename_i nfix
    refine ⟨fun i m σ H => ∃ A2 st, m = src.items.length - i ∧ i ≤ src.items.length ∧ Ext A H1 A2 H ∧ SR X.K A2 H σ st ∧ PostS X.K X.mg W A2 H (loopS bind src.chk mb (src.items.drop i) st) D,
      ⟨src.items.length, A, s1, by simp, Nat.zero_le _, Ext.refl A H1, sr1, by rw [List.drop_zero]; exact p1⟩, ?_⟩
    rintro i m σ H2 ⟨A2, st, rfl, hi, ex, sr2, p2⟩
    by_cases hlt : i < src.items.length
    · rw [List.drop_eq_getElem_cons hlt] at p2
      simp only [loopS] at p2
      split at p2
      · rename_i hk
        refine .inr ⟨ok.go i A2 H2 σ st hlt ex.kp (fun z => absurd z nfix) sr2 hk, _, fun σ' H' h => ⟨src.items.length - (i + 1), by omega, h⟩, fun x H' y => ?_⟩
        obtain ⟨e3, sr3, d, hd, rv⟩ := ok.yld i A2 H2 σ st x H' hlt ex.kp (fun z => absurd z nfix) sr2 hk y
        rw [List.getElem?_eq_getElem hlt] at hd
        cases hd
        refine ⟨A2, st, _, sr3, rv, ?_⟩
        cases hb : bind src.items[i] st with
        | none => rw [hb] at p2; exact p2
        | some st1 =>
          rw [hb] at p2
          intro σ4 sr4 _
          refine ⟨A2, st1, sr4, ?_⟩
          have p3 := p2.rebase e3.ext
          dsimp only at p3
          cases hm : mb st1 with
          | nx s5 =>
            rw [hm] at p3
            exact fun A' H'' σ' e5 sr5 => ⟨A', s5, rfl, hlt, ex.trans (e3.ext.trans e5), sr5, p3.rebase e5⟩
          | ct s5 =>
            rw [hm] at p3
            exact fun A' H'' σ' e5 sr5 => ⟨A', s5, rfl, hlt, ex.trans (e3.ext.trans e5), sr5, p3.rebase e5⟩
          | bk s5 => rw [hm] at p3; exact p3
          | rt r s5 => rw [hm] at p3; cases r <;> exact p3
          | exc x s5 => rw [hm] at p3; exact p3
          | bad => rw [hm] at p3; exact p3
      · exact p2.elim
    · have hie : i = src.items.length := by omega
      subst hie
      rw [List.drop_length] at p2
      simp only [loopS] at p2
      split at p2
      · rename_i hk
        exact .inl ⟨ok.stop A2 H2 σ st ex.kp (fun z => absurd z nfix) sr2 hk, p2 A2 H2 σ (Ext.refl A2 H2) sr2⟩
      · exact p2.elim⟩
end

/-! ### list comprehensions -/
def S.wipe (st : S) : List Nat → S
  | [] => st
  | v :: vs => (st.wipe vs).set v .un
section
variable {K : PySem.W.Frag} {mg : Str → Option Value} {W : WX} {A : Wd} {H : Hp} {σ σ' : L2.St} {st : S}
theorem SR.unset (sr : SR K A H σ st) {i : Nat} {o : Option V} : SR K A H (σ.set i o) (st.set i .un) where
  le := by simp [S.set, sr.le]
  lo := by simp [S.set, sr.lo]
  ll := sr.ll
  sl j t h := by
    by_cases e : i = j
    · subst e
      simp only [S.set] at h
      have hl : i < st.env.length := by
        have := (List.getElem?_eq_some_iff.mp h).1
        simpa using this
      rw [List.getElem?_set_self hl] at h
      cases h
      trivial
    · simp only [S.set] at h
      rw [List.getElem?_set_ne e] at h
      exact (sr.sl j t h).same (Stp.refl A H).kp ⟨[], by simp⟩ rfl (List.getElem?_set_ne e) fun _ _ => rfl
  so := sr.so
  dj := sr.dj
  hb := sr.hb
theorem SR.wiped (sr : SR K A H σ st) : ∀ vs : List Nat, SR K A H (L2.wipe σ vs) (st.wipe vs)
  | [] => sr
  | v :: vs => (SR.wiped sr vs).unset
theorem SR.more (sr : SR K A H σ st) (hl : σ'.length = σ.length) (h : ∀ (i : Nat) v, σ[i]? = some (some v) → σ'[i]? = some (some v)) : SR K A H σ' st where
  le := hl.trans sr.le
  lo := sr.lo
  ll := sr.ll
  sl j t e := by
    have r := sr.sl j t e
    cases t with
    | un => trivial
    | d x => obtain ⟨v, h1, h2⟩ := r; exact ⟨v, h j v h1, h2⟩
    | frz x => obtain ⟨v, h1, h2⟩ := r; exact ⟨v, h j v h1, h2⟩
    | loc n => obtain ⟨a, h1, h2⟩ := r; exact ⟨a, h j _ h1, h2⟩
    | own o => obtain ⟨a, h1, h2⟩ := r; exact ⟨a, h j _ h1, h2⟩
  so := sr.so
  dj := sr.dj
  hb := sr.hb
theorem SR.unwipe {vs : List Nat} (sr : SR K A H (L2.wipe σ vs) st) : SR K A H σ st := sr.more (wipe_length σ vs).symm fun i v h => (wipe_some h).1
theorem wipe_of_setOn {is vs : List Nat} (h : SetOn is (L2.wipe σ vs) σ') (hs : ∀ i ∈ is, i ∈ vs) : L2.wipe σ' vs = L2.wipe σ vs := by
  have key : ∀ (τ : L2.St) (us : List Nat) (j : Nat), (L2.wipe τ us)[j]? = if j ∈ us then (τ[j]?).map (fun _ => none) else τ[j]? := by
    intro τ us
    induction us with
    | nil => intro j; simp [L2.wipe]
    | cons u us ih =>
      intro j
      show ((L2.wipe τ us).set u none)[j]? = _
      by_cases e : u = j
      · subst e
        rw [List.getElem?_set_self', ih u]
        simp only [List.mem_cons, true_or, if_true]
        split <;> cases τ[u]? <;> rfl
      · rw [List.getElem?_set_ne e, ih j]
        have : (j ∈ u :: us) ↔ j ∈ us := by simp [show ¬ j = u from fun z => e z.symm]
        simp only [this]
  apply List.ext_getElem?
  intro j
  rw [key, key]
  by_cases hj : j ∈ vs
  · rw [if_pos hj, if_pos hj]
    have hl : σ'.length = σ.length := h.1.trans (wipe_length σ vs)
    by_cases hlt : j < σ.length
    · rw [List.getElem?_eq_getElem (show j < σ'.length by omega), List.getElem?_eq_getElem hlt]
      rfl
    · rw [List.getElem?_eq_none (by omega), List.getElem?_eq_none (by omega)]
  · rw [if_neg hj, if_neg hj, h.2 j fun z => hj (hs j z), key, if_neg hj]
/-- no error comes -/
def R.nx {α : Type} : R α → R α
  | .ok x st => .ok x st
  | _ => .bad
@[simp] theorem R.nx_ok {α : Type} (x : α) (st : S) : (R.ok x st).nx = .ok x st := rfl
theorem PostX.bindN {α β : Type} {r : R α} {f : α → S → R β} {fin : β → S → Hp → Prop} {W' : WX} (h : PostX K mg W A H σ (r.nx.bind f) fin) : PostX K mg W' A H σ r (fun x st1 H1 => PostX K mg W A H1 σ (f x st1) fin) := by
  cases r with
  | ok x st => exact fun H' e' sr => PostX.rebase e' h
  | exc x st => exact h.elim
  | bad => exact h
theorem PostX.slots {α : Type} {r : R α} {fin : α → S → Hp → Prop} (h : PostX K mg W A H σ r.nx fin) (w : ∀ H st, SR K A H σ' st → SR K A H σ st) : PostX K mg W A H σ' r.nx fin := by
  cases r with
  | ok x st => exact fun H' e sr => h H' e (w _ _ sr)
  | exc x st => exact h.elim
  | bad => exact h
theorem R.nx_bind_nx {α β : Type} (r : R α) (f : α → S → R β) : (r.nx.bind fun x s => (f x s).nx).nx = r.nx.bind fun x s => (f x s).nx := by
  cases r with
  | ok x st => simp only [R.nx_ok, R.bind_ok]; cases f x st <;> rfl
  | exc x st => rfl
  | bad => rfl
end
open Classical in
noncomputable def loopC (bind : D → S → Option S) (chk : S → Prop) (tt : S → R Bool) (me : S → R Vl) (vs : List Nat) : List D → S → R (List D)
  | [], st => if chk st then .ok [] st else .bad
  | x :: xs, st => if chk st then (match bind x st with
    | none => .bad
    | some s1 => (tt s1).nx.bind fun b s2 => if b = true then (me s2).nx.bind fun w s3 => (match w with
        | .d y => (loopC bind chk tt me vs xs (s3.wipe vs)).nx.bind fun ys s4 => .ok (y :: ys) s4
        | _ => .bad) else loopC bind chk tt me vs xs (s2.wipe vs)) else .bad
noncomputable def mComp (mi : S → R Src) (bind : D → S → Option S) (tt : S → R Bool) (me : S → R Vl) (vs : List Nat) : S → R Ob := fun st =>
  (mi st).bind fun p s1 => (loopC bind p.chk tt me vs p.items (s1.wipe vs)).nx.bind fun ys s2 => .ok (.lst ys) s2

theorem R.nx_inv {α β : Type} {r : R α} {f : α → S → R β} {y : β} {s : S} (h : r.nx.bind f = .ok y s) : ∃ x s1, r = .ok x s1 ∧ f x s1 = .ok y s := by
  cases r with
  | ok x s1 => exact ⟨x, s1, rfl, h⟩
  | exc x s1 => cases h
  | bad => cases h
section
variable {K : PySem.W.Frag} {A : Wd} {H H1 : Hp} {σ : L2.St} {st : S}
theorem SR.updT (sr : SR K A H σ st) {p : Addr} {o : HO} (hp : p ∈ A.T) (hz : hsz o ≤ sizeLine) : SR K A (upd H p o) σ st :=
  sr.mono ⟨fun a u n e => by rw [upd_ne fun z : a = p => n (.inr (.inr (by rw [z]; exact hp)))]; exact e, fun _ l => .inl l⟩ rfl rfl
    (fun a l => upd_ne fun z : a = p => l.elim (fun l => sr.dj.LT a l (by rw [z]; exact hp)) fun l => sr.dj.OT a l (by rw [z]; exact hp))
    (sr.dj.step fun a h => by
      by_cases z : a = p
      · rw [z, upd_same]; exact fun q => nomatch q
      · rw [upd_ne z]; exact h) (hb_upd sr.hb hz)
theorem kp_updT {p : Addr} {o : HO} (hp : p ∈ A.T) : Kp A H A (upd H p o) :=
  ⟨fun a u n e => by rw [upd_ne fun z : a = p => n (.inr (.inr (by rw [z]; exact hp)))]; exact e, fun _ l => .inl l⟩
/-- a thing that was not there may change -/
theorem Stp.updN (e : Stp A H H1) (dj : Dj A H) {p : Addr} {o : HO} (hp : H p = none) : Stp A H (upd H1 p o) where
  keep a u n h := by rw [upd_ne (ne_of_none h hp)]; exact e.keep a u n h
  keepT a h := by rw [upd_ne fun z : a = p => dj.dm a (.inr (.inr h)) (by rw [z]; exact hp)]; exact e.keepT a h
  dom a h := by
    by_cases z : a = p
    · rw [z, upd_same]; exact fun q => nomatch q
    · rw [upd_ne z]; exact e.dom a h
theorem Stp.pop {p : Addr} (e : Stp (A.push p) H H1) (hp : ¬ A.live p) (k : H1 p = H p) : Stp A H H1 where
  keep a u n h := by
    by_cases z : a = p
    · subst z; rw [k]; exact h
    · exact e.keep a u (fun l => (live_push.mp l).elim z n) h
  keepT a h := e.keepT a (List.mem_cons_of_mem _ h)
  dom := e.dom
end
theorem tr_lc {K : PySem.W.Frag} {mg : Str → Option Value} {W : WX} {mi : S → R Src} {bind : D → S → Option S} {is vs : List Nat} {tt : S → R Bool} {me : S → R Vl} (hv : ∀ i ∈ is, i ∈ vs) {σ : L2.St} {H : Hp} {Q : VK}
    (h : trF K mg W (mComp mi bind tt me vs) σ H Q) : tLc (trI K mg W mi) (trG K bind is) (trT K mg (fun _ _ _ _ => False) tt) (tr K mg (fun _ _ _ _ => False) me) vs σ H Q := by
  obtain ⟨A, st0, sr0, p0⟩ := h
  exact ⟨A, st0, sr0, (PostX.bind p0).imp fun src s1 H1 e1 sr1 p1 J ok D nD => by
    cases el : loopC bind src.chk tt me vs src.items (s1.wipe vs) with
    | exc x s => rw [el] at p1; exact p1.elim
    | bad => rw [el] at p1; exact p1.elim
    | ok ys s2 =>
      rw [el] at p1
      have hD : D ∈ (A.push D).T := List.mem_cons_self
      have nl : ¬ A.live D := nlive sr1 nD
      have kpD : ∀ {H2}, Stp A H1 H2 → Kp A H1 (A.push D) H2 := fun e => ⟨e.keep, fun b l => (live_push.mp l).elim (fun z => .inr (z ▸ nD)) .inl⟩
      refine ⟨fun i m H2 => ∃ st accV accD rest, m = src.items.length - i ∧ i ≤ src.items.length ∧ Stp A H1 H2 ∧ SR K (A.push D) H2 (L2.wipe σ vs) st ∧ H2 D = some (.lst accV) ∧
        RVs K (A.push D) H2 accV accD ∧ accD.length ≤ i ∧ loopC bind src.chk tt me vs (src.items.drop i) st = .ok rest s2 ∧ accD ++ rest = ys,
        ⟨src.items.length, s1.wipe vs, [], [], ys, by simp, Nat.zero_le _, stp_new nD sr1.dj, (sr1.new (o := .lst []) nD (Nat.zero_le _)).wiped vs, upd_same, .nil, Nat.le_refl _, by rw [List.drop_zero]; exact el, rfl⟩, ?_⟩
      rintro i m H2 ⟨st, accV, accD, rest, rfl, hi, e2, sr2, hD2, rvs, hacc, eq, rfl⟩
      by_cases hlt : i < src.items.length
      · rw [List.drop_eq_getElem_cons hlt] at eq
        simp only [loopC] at eq
        split at eq
        · rename_i hk
          refine .inr ⟨ok.go i _ H2 _ st hlt (kpD e2) (fun _ => ⟨rfl, rfl⟩) sr2 hk, _, fun H' h => ⟨src.items.length - (i + 1), by omega, h⟩, fun x H' y => ?_⟩
          obtain ⟨e3, sr3, d, hd, rv⟩ := ok.yld i _ H2 _ st x H' hlt (kpD e2) (fun _ => ⟨rfl, rfl⟩) sr2 hk y
          rw [List.getElem?_eq_getElem hlt] at hd
          cases hd
          refine ⟨A.push D, st, _, sr3, rv, ?_⟩
          split at eq
          · cases eq
          · rename_i st1 hb
            rw [hb]
            intro σ4 sr4 so4
            have hw : L2.wipe σ4 vs = L2.wipe σ vs := wipe_of_setOn so4 hv
            refine ⟨hw, ?_⟩
            obtain ⟨b, sb, et, eq⟩ := R.nx_inv eq
            refine ⟨A.push D, st1, sr4, ?_⟩
            rw [et]
            intro H5 e5 sr5
            have rvs5 : RVs K (A.push D) H5 accV accD := (rvs.mono e3.kp).mono e5.kp
            have hD5 : H5 D = some (.lst accV) := (e5.keepT D hD).trans ((e3.keepT D hD).trans hD2)
            have e25 : Stp A H1 H5 := e2.trans ((e3.trans e5).pop nl ((e5.keepT D hD).trans (e3.keepT D hD)))
            cases b with
            | false =>
              exact ⟨sb.wipe vs, accV, accD, rest, rfl, hlt, e25, by rw [← hw]; exact sr5.wiped vs, hD5, rvs5, by omega, eq, rfl⟩
            | true =>
              obtain ⟨w, sw, em, eq⟩ := R.nx_inv eq
              refine ⟨A.push D, sb, sr5, ?_⟩
              rw [em]
              intro H6 e6 sr6 v rv6
              have hD6 : H6 D = some (.lst accV) := (e6.keepT D hD).trans hD5
              have rvs6 : RVs K (A.push D) H6 accV accD := rvs5.mono e6.kp
              have hl : accV.length < sizeLine := by
                have := rvs.length
                have := ok.sz
                omega
              refine ⟨accV, hD6, hl, ?_⟩
              cases w with
              | d y =>
                obtain ⟨ys', s4, el', eq⟩ := R.nx_inv eq
                cases eq
                have hz : hsz (.lst (accV ++ [v])) ≤ sizeLine := by
                  show (accV ++ [v]).length ≤ sizeLine
                  rw [List.length_append, List.length_singleton]
                  omega
                refine ⟨sw.wipe vs, accV ++ [v], accD ++ [y], ys', rfl, hlt, ?_, ?_, upd_same, ?_, ?_, el', by simp⟩
                · exact Stp.updN (e25.trans (e6.pop nl (e6.keepT D hD))) sr1.dj nD
                · exact SR.updT (by rw [← hw]; exact sr6.wiped vs) hD hz
                · exact (rvs6.append (.cons rv6 .nil)).mono (kp_updT hD)
                · rw [List.length_append, List.length_singleton]; omega
              | loc n => cases eq
              | own n => cases eq
              | frz n => cases eq
              | kt n => cases eq
        · cases eq
      · have hie : i = src.items.length := by omega
        subst hie
        rw [List.drop_length] at eq
        simp only [loopC] at eq
        split at eq
        · rename_i hk
          cases eq
          have sr6 := sr2.unwipe
          refine .inl ⟨ok.stop _ H2 _ _ (kpD e2) (fun _ => ⟨rfl, rfl⟩) sr2 hk, p1 H2 e2 sr6.pop D (e1.back nD) sr6 ⟨accV, hD2, ?_⟩⟩
          rw [List.append_nil]
          exact rvs
        · cases eq⟩

theorem af_lc {X : Cx} {W : WX} {elt tg iter : Expr} {ifs : List Expr} {scope : Scope} {own : List (Str × Nat)} {pos : Pos} {mi : S → R Src} {bind : D → S → Option S} {is : List Nat} {tt : S → R Bool} {me : S → R Vl}
    (hc : X.calm = true) (hN : X.N.Nodup) (hi : AI X W tg iter mi) (ok : BlkOk X.N X.env.scope scope own)
    (hg : ∀ (s : Shared) (H : Hp) (C : Addr) (cl : List (Str × Addr)) (fp : List Addr), AG (X.blk s H scope (compEnvC scope cl C X.env) fp) tg bind is)
    (ht : ∀ (s : Shared) (H : Hp) (C : Addr) (cl : List (Str × Addr)) (fp : List Addr), PTs (X.blk s H scope (compEnvC scope cl C X.env) fp) ifs (trT X.K X.mg (fun _ _ _ _ => False) tt))
    (he : ∀ (s : Shared) (H : Hp) (C : Addr) (cl : List (Str × Addr)) (fp : List Addr), AE (X.blk s H scope (compEnvC scope cl C X.env) fp) (fun _ _ _ _ => False) elt me)
    (hv : ∀ i ∈ is, i ∈ own.map (·.2)) (hs : ∀ x, foldedSetIterable iter X.env x = pure x := by intro _; rfl) :
    AF X W (.ListComp elt [⟨tg, iter, ifs, 0⟩] scope pos) (mComp mi bind tt me (own.map (·.2))) :=
  PE.imp (pe_lc hc hN hi ok hg ht he hs) fun σ H Q h => tr_lc hv h
end RA
set_option Elab.async false
set_option linter.all false
set_option maxRecDepth 100000
set_option maxHeartbeats 4000000
namespace RA
open PySem PySem.Spec PyProof.Rows L2

/-! ### a def by its body -/
def slD (w : Vl) : Sl := match w with
  | .d x => .d x
  | .loc n => .loc n
  | .frz ds => .frz ds
  | _ => .un
def finF (sto : List Ob) : Out → FR
  | .nx st' => .ok (.v (.d .none)) (st'.sto.take sto.length)
  | .rt (.v (.d x)) st' => .ok (.v (.d x)) (st'.sto.take sto.length)
  | .rt (.v (.loc n)) st' => if n < sto.length then .ok (.v (.loc n)) (st'.sto.take sto.length) else .bad
  | .rt (.o ob) st' => .ok (.o ob) (st'.sto.take sto.length)
  | .exc e st' => .exc e (st'.sto.take sto.length)
  | _ => .bad
def entry (n : Nat) (ws : List Vl) (sto : List Ob) : S := ⟨ws.map slD ++ List.replicate (n - ws.length) .un, sto⟩
def mFun (n : Nat) (m : S → Out) : Fn := fun ws sto => finF sto (m (entry n ws sto))
theorem RWs.length {K : PySem.W.Frag} {A : Wd} {H : Hp} {vs : List V} {ws : List Vl} (h : RWs K A H vs ws) : vs.length = ws.length := by
  induction vs generalizing ws with
  | nil => cases h; rfl
  | cons v vs ih => cases h with | cons a b => simp [ih b]
theorem RWs.get {K : PySem.W.Frag} {A : Wd} {H : Hp} {vs : List V} {ws : List Vl} (h : RWs K A H vs ws) : ∀ {i : Nat} {w : Vl}, ws[i]? = some w → ∃ v, vs[i]? = some v ∧ RW K A H v w := by
  induction vs generalizing ws with
  | nil => cases h; intro i d e; simp at e
  | cons v vs ih =>
    cases h with
    | cons a b =>
      intro i d e
      cases i with
      | zero => simp at e; subst e; exact ⟨v, rfl, a⟩
      | succ i => exact ih b e
section
variable {K : PySem.W.Frag} {mg : Str → Option Value} {A : Wd} {H : Hp}
def Wd.body (A : Wd) (n : Nat) : Wd := ⟨A.L, List.replicate n none, A.T⟩
theorem live_body {n : Nat} {a : Addr} (h : A.O = []) : (A.body n).live a ↔ A.live a := by
  unfold Wd.body Wd.live
  simp [h]
theorem entry_ok {N : List Str} {vs : List V} {ws : List Vl} {sto : List Ob} (hO : A.O = []) (hl : ws.length ≤ N.length) (sr : SR K A H [] ⟨[], sto⟩) (r : RWs K A H vs ws) : SR K (A.body N.length) H (L2.start N vs) (entry N.length ws sto) where
  le := by simp [L2.start, entry, r.length]
  lo := by simp only [Wd.body, entry, List.length_replicate, List.length_append, List.length_map]; omega
  ll := sr.ll
  sl i s h := by
    by_cases hi : i < ws.length
    · have e : (entry N.length ws sto).env[i]? = some (slD ws[i]) := by
        simp only [entry]
        rw [List.getElem?_append_left (by simpa using hi), List.getElem?_map, List.getElem?_eq_getElem hi]
        rfl
      rw [e] at h
      cases h
      obtain ⟨v, hv, rw⟩ := r.get (List.getElem?_eq_getElem hi)
      have es : (L2.start N vs)[i]? = some (some v) := by
        simp only [L2.start]
        rw [List.getElem?_append_left (by rw [List.length_map, r.length]; exact hi), List.getElem?_map, hv]
        rfl
      have kp : Kp A H (A.body N.length) H := Kp.of_live fun a l => (live_body hO).mp l
      generalize ws[i] = w at rw
      cases w with
      | d x => exact ⟨v, es, RV.mono kp rw⟩
      | frz x => exact ⟨v, es, RF.mono kp rw⟩
      | loc n =>
        obtain ⟨a, rfl, h⟩ := rw
        exact ⟨a, es, h⟩
      | own n => trivial
      | kt n => trivial
    · have e : (entry N.length ws sto).env[i]? = some s := h
      simp only [entry] at e
      rw [List.getElem?_append_right (by simpa using hi)] at e
      have := List.mem_of_getElem? e
      rw [List.mem_replicate] at this
      rw [this.2]
      trivial
  so n o h := by
    obtain ⟨a, h1, h2⟩ := sr.so n o h
    exact ⟨a, h1, h2.of_live fun a l => (live_body hO).mp l⟩
  dj := ⟨sr.dj.LL, fun i j a h => by simp [Wd.body, List.getElem?_replicate] at h, fun a _ h => by simp [Wd.body] at h, sr.dj.LT, fun a h => by simp [Wd.body] at h, fun a l => sr.dj.dm a ((live_body hO).mp l)⟩
  hb := sr.hb
theorem stp_exit {n : Nat} {A' : Wd} {H' : Hp} (hO : A.O = []) (e : Ext (A.body n) H A' H') : Stp A H H' :=
  ⟨fun a u nl h => e.kp.keep a u (fun l => nl ((live_body hO).mp l)) h, e.keepT, e.dom⟩
theorem live_exit {n : Nat} {A' : Wd} {H' : Hp} (hO : A.O = []) (e : Ext (A.body n) H A' H') {a : Addr} (l : A.live a) : A'.live a := by
  obtain ⟨m, em⟩ := e.L
  rcases l with l | l | l
  · exact .inl (by rw [em]; exact List.mem_append.mpr (.inl l))
  · rw [hO] at l; cases l
  · exact .inr (.inr (by rw [e.T]; exact l))
theorem sr_exit {n : Nat} {A' : Wd} {H' : Hp} {σ' : L2.St} {st' : S} {sto : List Ob} (hO : A.O = []) (sr : SR K A H [] ⟨[], sto⟩) (e : Ext (A.body n) H A' H') (s' : SR K A' H' σ' st') : SR K A H' [] ⟨[], st'.sto.take sto.length⟩ where
  le := rfl
  lo := by rw [hO]; rfl
  ll := by
    obtain ⟨m, em⟩ := e.L
    have h1 : A.L.length = sto.length := sr.ll
    have h2 : A'.L.length = st'.sto.length := s'.ll
    have h3 : (A.body n).L = A.L := rfl
    rw [em, List.length_append, h3] at h2
    show A.L.length = (st'.sto.take sto.length).length
    rw [List.length_take]
    omega
  sl i s h := by simp at h
  so k o h := by
    obtain ⟨m, em⟩ := e.L
    have h1 : A.L.length = sto.length := sr.ll
    have hk : k < sto.length := by
      have := (List.getElem?_eq_some_iff.mp h).1
      simp only [List.length_take] at this
      omega
    rw [List.getElem?_take_of_lt hk] at h
    obtain ⟨a, g1, g2⟩ := s'.so k o h
    refine ⟨a, ?_, g2.of_live fun a l => live_exit hO e l⟩
    rw [em, List.getElem?_append_left (by show k < A.L.length; omega)] at g1
    exact g1
  dj := sr.dj.step e.dom
  hb := s'.hb
theorem sr_exitO {n : Nat} {A' : Wd} {H' : Hp} {σ' : L2.St} {st' : S} {sto : List Ob} {p : Addr} (hO : A.O = []) (sr : SR K A H [] ⟨[], sto⟩) (na : H p = none) (e : Ext (A.body n) H A' H') (s' : SR K (A'.push p) H' σ' st') : SR K (A.push p) H' [] ⟨[], st'.sto.take sto.length⟩ where
  le := rfl
  lo := by show A.O.length = 0; rw [hO]; rfl
  ll := (sr_exit hO sr e s'.pop).ll
  sl i s h := by simp at h
  so k o h := by
    obtain ⟨m, em⟩ := e.L
    have h1 : A.L.length = sto.length := sr.ll
    have hk : k < sto.length := by
      have := (List.getElem?_eq_some_iff.mp h).1
      simp only [List.length_take] at this
      omega
    rw [List.getElem?_take_of_lt hk] at h
    obtain ⟨a, g1, g2⟩ := s'.so k o h
    refine ⟨a, ?_, g2.of_live fun a l => live_push.mpr ((live_push.mp l).imp id (live_exit hO e))⟩
    have g1' : A'.L[k]? = some a := g1
    rw [em, List.getElem?_append_left (by show k < A.L.length; omega)] at g1'
    exact g1'
  dj := sr.dj.push na e.dom (s'.dj.dm p (live_push.mpr (.inl rfl)))
  hb := s'.hb
end
section
variable {P : Program} {w : World} {K : PySem.W.Frag} {mg : Str → Option Value} {base : Heap} {x qual : Str} {st : Stmt} {f : Addr} {fd : FuncData} {N ps : List Str} {k : Nat} {m : S → Out}
theorem fn_ok (F : Fun K x qual st f fd) (Sc : FnScope N ps (defScope st))
    (hbody : ∀ (cdv : Value) (A : Around) (outer : List Env) (s : Shared) (H : Hp) (E : XK), Room k (A.deeper (envOfC qual (defScope st) s.heap.objs.size f cdv)) →
      ASs (cxOf (L2.CX P w) P w K mg base N qual (defScope st) f cdv A outer s H E) (fun cls d _ H => E cls d H) (defBody st) m) :
    FnOk P w K mg base (L2.CX P w) (k + 1) f fd ps (spA K mg ps.length (mFun N.length m)) := by
  refine F.okX Sc (fun vs H Q E h => ?_) (fun cdv A outer s H vs Q E hr h => ?_)
  · obtain ⟨A, sto, ws, _, h, _⟩ := h
    exact h
  · obtain ⟨A', sto, ws, hO, hlen, sr, rws, post⟩ := h
    have hps : ps.length ≤ N.length := by
      have := Sc.pre
      rw [← this, List.length_take]
      exact Nat.min_le_right _ _
    have hws : ws.length ≤ N.length := by rw [← rws.length, hlen]; exact hps
    refine ⟨_, hbody cdv A outer s H E hr, A'.body N.length, entry N.length ws sto, entry_ok hO hws sr rws, ?_⟩
    unfold mFun at post
    show PostS K mg (fun cls d _ H => E cls d H) (A'.body N.length) H (m (entry N.length ws sto)) _
    cases em : m (entry N.length ws sto) with
    | nx st' =>
      rw [em] at post
      exact fun B H' σ' e s' => post .non H' (stp_exit hO e) (sr_exit hO sr e s') .non
    | bk st' => rw [em] at post; exact post.elim
    | ct st' => rw [em] at post; exact post.elim
    | bad => rw [em] at post; exact post.elim
    | exc x st' =>
      rw [em] at post
      exact fun B H' σ' cls d e s' re => post cls d H' (stp_exit hO e) (sr_exit hO sr e s') (re.of_live fun a l => live_exit hO e l)
    | rt r st' =>
      rw [em] at post
      cases r with
      | v w =>
        cases w with
        | d x => exact fun B H' σ' v e s' rw => post v H' (stp_exit hO e) (sr_exit hO sr e s') (RV.mono (Kp.of_live fun a l => live_exit hO e l) rw)
        | loc n =>
          dsimp only [finF] at post
          split at post
          · rename_i hn
            intro B H' σ' v e s' rw
            obtain ⟨a, rfl, h⟩ := rw
            obtain ⟨l, el⟩ := e.L
            have hn' : n < A'.L.length := by rw [show A'.L.length = sto.length from sr.ll]; exact hn
            have hn2 : n < (A'.body N.length).L.length := hn'
            rw [el, List.getElem?_append_left hn2] at h
            exact post _ H' (stp_exit hO e) (sr_exit hO sr e s') ⟨a, rfl, h⟩
          · exact post.elim
        | frz ds => exact post.elim
        | own n => exact post.elim
        | kt n => exact post.elim
      | o ob =>
        intro B H' σ' a f e s' ro
        have na : H a = none := f.2.2.elim (fun h => by simp [Wd.body] at h) id
        exact post a H' na (stp_exit hO e) (sr_exitO hO sr na e s') (ro.of_live fun a l => live_push.mpr ((live_push.mp l).imp id (live_exit hO e)))
end
end RA
set_option Elab.async false
set_option linter.all false
set_option maxRecDepth 100000
set_option maxHeartbeats 4000000
namespace RA
open PySem PySem.Spec PyProof.Rows L2

section
variable {K : PySem.W.Frag} {mg : Str → Option Value} {W : WX}
/-- two ints -/
def opI (g : Int → Int → D) : Vl → Vl → S → R Vl
  | .d (.int i), .d (.int j), st => .ok (.d (g i j)) st
  | _, _, _ => .bad
theorem sop_I0 {g : Int → Int → V} {gd : Int → Int → D} (hg : ∀ A H i j, RV K A H (g i j) (gd i j)) : SOp K mg W (rI0 g) (opI gd) := fun A H σ st v v2 x y Q sr r1 r2 p => by
  unfold opI at p
  split at p
  · cases r1; cases r2
    exact ⟨_, _, rfl, rfl, p.here sr _ (hg A H _ _)⟩
  · exact p.elim
def opIC (C : Int → Int → Bool) (g : Int → Int → D) : Vl → Vl → S → R Vl
  | .d (.int i), .d (.int j), st => if C i j = true then .ok (.d (g i j)) st else .bad
  | _, _, _ => .bad
theorem sop_IC {C : Int → Int → Prop} {Cd : Int → Int → Bool} {g : Int → Int → V} {gd : Int → Int → D} (hC : ∀ i j, Cd i j = true → C i j) (hg : ∀ A H i j, RV K A H (g i j) (gd i j)) : SOp K mg W (rI C g) (opIC Cd gd) := fun A H σ st v v2 x y Q sr r1 r2 p => by
  unfold opIC at p
  split at p
  · cases r1; cases r2
    split at p
    · rename_i h
      exact ⟨_, _, rfl, rfl, hC _ _ h, p.here sr _ (hg A H _ _)⟩
    · exact p.elim
  · exact p.elim
abbrev opSub := opI fun i j => .int (i - j)
abbrev opMul := opIC (fun i j => decide (-(2 ^ 64) < i ∧ i < 2 ^ 64) || decide (-(2 ^ 64) < j ∧ j < 2 ^ 64)) fun i j => .int (i * j)
abbrev opMod := opIC (fun _ j => decide (0 < j)) fun i j => .int (i % j)
abbrev opFdiv := opIC (fun _ j => decide (0 < j ∧ j < 1073741824)) fun i j => .int (i / j)
abbrev opPow := opIC (fun i j => decide (0 ≤ j ∧ j ≤ 1000000 ∧ i.natAbs < 2 ^ 64)) fun i j => .int (i ^ j.toNat)
abbrev opShr := opIC (fun _ j => decide (0 ≤ j)) fun i j => .int (i / 2 ^ j.toNat)
abbrev opAnd := opI fun i j => .int (Builtin.bitAnd i j)
theorem so_sub : SOp K mg W (rI0 fun i j => .int (i - j)) opSub := sop_I0 fun _ _ _ _ => .int _
theorem so_and : SOp K mg W (rI0 fun i j => .int (Builtin.bitAnd i j)) opAnd := sop_I0 fun _ _ _ _ => .int _
theorem so_mul : SOp K mg W (rI CMul fun i j => .int (i * j)) opMul := sop_IC (fun i j h => by
  rcases Bool.or_eq_true _ _ ▸ h with h | h
  · exact .inl (of_decide_eq_true h)
  · exact .inr (of_decide_eq_true h)) fun _ _ _ _ => .int _
theorem so_mod : SOp K mg W (rI (fun _ j => 0 < j) fun i j => .int (i % j)) opMod := sop_IC (fun i j h => of_decide_eq_true h) fun _ _ _ _ => .int _
theorem so_fdiv : SOp K mg W (rI CDiv fun i j => .int (i / j)) opFdiv := sop_IC (fun i j h => of_decide_eq_true (p := 0 < j ∧ j < 1073741824) h) fun _ _ _ _ => .int _
theorem so_pow : SOp K mg W (rI CPow fun i j => .int (i ^ j.toNat)) opPow := sop_IC (fun i j h => of_decide_eq_true (p := 0 ≤ j ∧ j ≤ 1000000 ∧ i.natAbs < 2 ^ 64) h) fun _ _ _ _ => .int _
theorem so_shr : SOp K mg W (rI (fun _ j => 0 ≤ j) fun i j => .int (i / 2 ^ j.toNat)) opShr := sop_IC (fun i j h => of_decide_eq_true h) fun _ _ _ _ => .int _
/-- a + b -/
def opAdd (x y : Vl) (st : S) : R Vl := match x, y with
  | .d (.int i), .d (.int j) => .ok (.d (.int (i + j))) st
  | .d (.str i), .d (.str j) => if i.length + j.length ≤ sizeLine then .ok (.d (.str (i ++ j))) st else .bad
  | .d (.tuple xs), .d (.tuple ys) => if xs.length + ys.length ≤ sizeLine then .ok (.d (.tuple (xs ++ ys))) st else .bad
  | x, y => match lstOf x st, lstOf y st with
    | some xs, some ys => if xs.length + ys.length ≤ sizeLine then .ok (.d (.list (xs ++ ys))) st else .bad
    | _, _ => .bad
def rAddS : R2 := fun x y H Q => ∃ i j, x = .str i ∧ y = .str j ∧ i.length + j.length ≤ sizeLine ∧ Q (.str (i ++ j)) H
def rAdd4 (K : PySem.W.Frag) : R2 := fun x y H Q => rI0 (fun i j => .int (i + j)) x y H Q ∨ rAddS x y H Q ∨ rCatA K x y H Q ∨ rCat x y H Q
theorem op_add4 {X : Cx} : OpR X (binaryOp .Add) (rAdd4 X.K) := OpR.or op_add (OpR.or op_add_str (OpR.or op_catA op_cat))
theorem rv_nil_of {A : Wd} {H : Hp} {vs : List V} {ds : List D} (h : RVs K A H vs ds) : vs = [] ↔ ds = [] := by
  constructor <;> intro e <;> subst e <;> cases h <;> rfl
theorem so_add : SOp K mg W (rAdd4 K) opAdd := fun A H σ st v v2 x y Q sr r1 r2 p => by
  unfold opAdd at p
  split at p
  · cases r1; cases r2
    exact .inl ⟨_, _, rfl, rfl, p.here sr _ (.int _)⟩
  · cases r1; cases r2
    split at p
    · rename_i h
      exact .inr (.inl ⟨_, _, rfl, rfl, h, p.here sr _ (.str _)⟩)
    · exact p.elim
  · split at p
    · rename_i xs ys h
      obtain ⟨a, us, rfl, ha, ra⟩ := tup_at r1
      obtain ⟨b, ws, rfl, hb, rb⟩ := tup_at r2
      refine .inr (.inr (.inl ⟨a, b, us, ws, rfl, rfl, ha, hb, by rw [ra.length, rb.length]; exact h, fun e => ?_, fun _ e => ?_, fun _ _ q nq => ?_⟩))
      · have := (rv_nil_of ra).mp e
        subst this
        exact p.here sr _ r2
      · have := (rv_nil_of rb).mp e
        subst this
        rw [List.append_nil] at p
        exact p.here sr _ r1
      · exact p _ (stp_new nq sr.dj) (sr.newp (o := .tup (us ++ ws)) nq (by show (us ++ ws).length ≤ _; rw [List.length_append, ra.length, rb.length]; exact h)) _ (rv_newtup sr nq (ra.append rb))
    · exact p.elim
  · split at p
    · rename_i xs ys e1 e2
      split at p
      · rename_i h
        obtain ⟨a, us, rfl, ha, ra⟩ := lstOf_at sr r1 e1
        obtain ⟨b, ws, rfl, hb, rb⟩ := lstOf_at sr r2 e2
        refine .inr (.inr (.inr ⟨a, b, us, ws, rfl, rfl, ha, hb, by rw [ra.length, rb.length]; exact h, fun q nq => ?_⟩))
        exact p _ (stp_new nq sr.dj) (sr.newp (o := .lst (us ++ ws)) nq (by show (us ++ ws).length ≤ _; rw [List.length_append, ra.length, rb.length]; exact h)) _ (rv_newlst sr nq (ra.append rb))
      · exact p.elim
    · exact p.elim
/-! order -/
abbrev opLtI := opI fun i j => .bool (decide (i < j))
abbrev opLe := opI fun i j => .bool (decide (i ≤ j))
abbrev opGt := opI fun i j => .bool (decide (j < i))
abbrev opGe := opI fun i j => .bool (decide (j ≤ i))
theorem so_ltI : SOp K mg W (rI0 fun i j => .bl (decide (i < j))) opLtI := sop_I0 fun _ _ _ _ => .bl _
theorem so_le : SOp K mg W (rI0 fun i j => .bl (decide (i ≤ j))) opLe := sop_I0 fun _ _ _ _ => .bl _
theorem so_gt : SOp K mg W (rI0 fun i j => .bl (decide (j < i))) opGt := sop_I0 fun _ _ _ _ => .bl _
theorem so_ge : SOp K mg W (rI0 fun i j => .bl (decide (j ≤ i))) opGe := sop_I0 fun _ _ _ _ => .bl _
def opLt (x y : Vl) (st : S) : R Vl := match x, y with
  | .d (.int i), .d (.int j) => .ok (.d (.bool (decide (i < j)))) st
  | .d (.str i), .d (.str j) => .ok (.d (.bool (decide (i.cps.toList < j.cps.toList)))) st
  | _, _ => .bad
def rLt2 : R2 := fun x y H Q => rI0 (fun i j => .bl (decide (i < j))) x y H Q ∨ ∃ i j, x = .str i ∧ y = .str j ∧ Q (.bl (decide (i.cps.toList < j.cps.toList))) H
theorem op_lt2 {X : Cx} : OpR X (compareOp .Lt) rLt2 := OpR.or op_lt op_lt_str
theorem so_lt : SOp K mg W rLt2 opLt := fun A H σ st v v2 x y Q sr r1 r2 p => by
  unfold opLt at p
  split at p
  · cases r1; cases r2
    exact .inl ⟨_, _, rfl, rfl, p.here sr _ (.bl _)⟩
  · cases r1; cases r2
    exact .inr ⟨_, _, rfl, rfl, p.here sr _ (.bl _)⟩
  · exact p.elim
/-! == -/
mutual
theorem RV.dp {A : Wd} {H : Hp} : ∀ {d : D} {v : V}, RV K A H v d → d.canLay0 = true → Dp K H v d
  | .none, _, r, _ => by cases r; exact .non
  | .bool _, _, r, _ => by cases r; exact .bl _
  | .int _, _, r, _ => by cases r; exact .int _
  | .str _, _, r, _ => by cases r; exact .str _
  | .list ds, _, r, e => by
    cases r with
    | lst n h q => exact .lst (.inl (.inl h)) (RVs.dp q (by simpa [PyData.canLay0] using e))
  | .tuple ds, _, r, e => by
    cases r with
    | tup n h q => exact .tup (.inl (.inl h)) (RVs.dp q (by simpa [PyData.canLay0] using e))
  | .dict ds, _, r, e => by simp [PyData.canLay0] at e
theorem RVs.dp {A : Wd} {H : Hp} : ∀ {ds : List D} {vs : List V}, RVs K A H vs ds → PyData.canLayAll0 ds = true → DpAll K H vs ds
  | [], _, r, _ => by cases r; exact .nil
  | d :: ds, _, r, e => by
    cases r with
    | cons a b =>
      simp only [PyData.canLayAll0, Bool.and_eq_true] at e
      exact .cons (RV.dp a e.1) (RVs.dp b e.2)
end
/-- a value as data -/
def datOf (x : Vl) (st : S) : Option D := match x with
  | .d x => some x
  | .kt xs => some (.tuple xs)
  | x => (seqOf x st).map .list
theorem lay_shaped {d : D} (h : SeqAt.shaped d = true) : d.canLay0 = true := SeqAt.canLay_of_shaped h
theorem datOf_dp {A : Wd} {H : Hp} {σ : L2.St} {st : S} (sr : SR K A H σ st) {x : Vl} {v : V} {d : D} (r : RW K A H v x) (e : datOf x st = some d) (h : SeqAt.shaped d = true) : Dp K H v d := by
  have aux : ∀ ds, seqOf x st = some ds → SeqAt.shaped (.list ds) = true → Dp K H v (.list ds) := fun ds e h => by
    obtain ⟨a, vs, rfl, hs, q⟩ := seqOf_at sr r e
    exact .lst hs (q.dp (by simpa [PyData.canLay0] using lay_shaped h))
  cases x with
  | d x => cases e; exact RV.dp r (lay_shaped h)
  | loc n =>
    simp only [datOf, Option.map_eq_some_iff] at e
    obtain ⟨ds, e1, rfl⟩ := e
    exact aux ds e1 h
  | own n =>
    simp only [datOf, Option.map_eq_some_iff] at e
    obtain ⟨ds, e1, rfl⟩ := e
    exact aux ds e1 h
  | frz n =>
    simp only [datOf, Option.map_eq_some_iff] at e
    obtain ⟨ds, e1, rfl⟩ := e
    exact aux ds e1 h
  | kt n =>
    cases e
    obtain ⟨a, vs, rfl, hs, q⟩ := r
    exact .tup (.inr hs) (q.dp (by simpa [PyData.canLay0] using lay_shaped h))
def opEqB (g : Bool → Bool) (x y : Vl) (st : S) : R Vl := match datOf x st, datOf y st with
  | some d, some e => if SeqAt.shaped d = true ∧ SeqAt.shaped e = true then .ok (.d (.bool (g (PyData.eqv d e)))) st else .bad
  | _, _ => .bad
abbrev opEq := opEqB id
abbrev opNe := opEqB not
theorem so_eq : SOp K mg W (rEqD K) opEq := fun A H σ st v v2 x y Q sr r1 r2 p => by
  unfold opEq opEqB at p
  split at p
  · rename_i d e h1 h2
    split at p
    · rename_i h
      exact ⟨d, e, datOf_dp sr r1 h1 h.1, datOf_dp sr r2 h2 h.2, h.1, h.2, p.here sr _ (.bl _)⟩
    · exact p.elim
  · exact p.elim
theorem so_ne : SOp K mg W (rNeD K) opNe := fun A H σ st v v2 x y Q sr r1 r2 p => by
  unfold opNe opEqB at p
  split at p
  · rename_i d e h1 h2
    split at p
    · rename_i h
      exact ⟨d, e, datOf_dp sr r1 h1 h.1, datOf_dp sr r2 h2 h.2, h.1, h.2, p.here sr _ (.bl _)⟩
    · exact p.elim
  · exact p.elim
/-! is None -/
def isNonD : D → Bool
  | .none => true
  | _ => false
def opIs (g : Bool → Bool) (x y : Vl) (st : S) : R Vl := match x, y with
  | .d d, .d .none => .ok (.d (.bool (g (isNonD d)))) st
  | _, _ => .bad
theorem isNon_rv {A : Wd} {H : Hp} {v : V} {d : D} (r : RV K A H v d) : decide (v = .non) = isNonD d := by cases r <;> rfl
abbrev opIsN := opIs id
abbrev opNotN := opIs not
theorem so_isN : SOp K mg W (fun x y H Q => y = .non ∧ Q (.bl (decide (x = .non))) H) opIsN := fun A H σ st v v2 x y Q sr r1 r2 p => by
  unfold opIsN opIs at p
  split at p
  · have e := isNon_rv r1
    cases r2
    exact ⟨rfl, p.here sr _ (by rw [e]; exact .bl _)⟩
  · exact p.elim
theorem so_notN : SOp K mg W (fun x y H Q => y = .non ∧ Q (.bl (!decide (x = .non))) H) opNotN := fun A H σ st v v2 x y Q sr r1 r2 p => by
  unfold opNotN opIs at p
  split at p
  · have e := isNon_rv r1
    cases r2
    exact ⟨rfl, p.here sr _ (by rw [e]; exact .bl _)⟩
  · exact p.elim
/-! subscripts -/
def opIx (x y : Vl) (st : S) : R Vl := match y with
  | .d (.int i) => (match x with
    | .d (.str z) => if z.length ≤ sizeLine then (match atI z.cps.toList i with | some c => .ok (.d (.str ⟨#[c]⟩)) st | none => .bad) else .bad
    | x => (match tupOf x with
      | some xs => (match atI xs i with | some d => .ok (.d d) st | none => .bad)
      | none => (match seqOf x st with
        | some xs => (match atI xs i with | some d => .ok (.d d) st | none => .bad)
        | none => .bad)))
  | _ => .bad
theorem atI_rv {A : Wd} {H : Hp} {vs : List V} {ds : List D} (r : RVs K A H vs ds) {i : Int} {d : D} (e : atI ds i = some d) : ∃ v, atI vs i = some v ∧ RV K A H v d := by
  unfold atI at *
  rw [r.length]
  cases h : ixN ds.length i with
  | none => rw [h] at e; cases e
  | some j =>
    rw [h] at e
    obtain ⟨v, h1, h2⟩ := r.get e
    exact ⟨v, h1, h2⟩
theorem so_ix : SOp K mg W (rIx K) opIx := fun A H σ st v v2 x y Q sr r1 r2 p => by
  unfold opIx at p
  split at p
  · cases r2
    split at p
    · cases r1
      split at p
      · rename_i hz
        split at p
        · rename_i c e
          exact .inr (.inr ⟨_, _, c, rfl, rfl, hz, e, p.here sr _ (.str _)⟩)
        · exact p.elim
      · exact p.elim
    · split at p
      · rename_i xs e
        obtain ⟨a, us, rfl, ha, ra⟩ := tupOf_at r1 e
        split at p
        · rename_i d e
          obtain ⟨v, hv, rv⟩ := atI_rv ra e
          exact .inr (.inl ⟨a, us, _, v, rfl, rfl, ha, hv, p.here sr _ rv⟩)
        · exact p.elim
      · split at p
        · rename_i xs e
          obtain ⟨a, us, rfl, ha, ra⟩ := seqOf_at sr r1 e
          split at p
          · rename_i d e
            obtain ⟨v, hv, rv⟩ := atI_rv ra e
            exact .inl ⟨a, us, _, v, rfl, rfl, ha, hv, p.here sr _ rv⟩
          · exact p.elim
        · exact p.elim
  · exact p.elim
end
end RA
set_option Elab.async false
set_option linter.all false
set_option maxRecDepth 100000
set_option maxHeartbeats 4000000
namespace RA
open PySem PySem.Spec PyProof.Rows L2

section
variable {K : PySem.W.Frag} {mg : Str → Option Value} {W : WX}
/-! in -/
def keyOf : D → Option Key
  | .int i => some (.inl i)
  | .str x => some (.inr x)
  | _ => none
def keysOf : List D → Option (List Key)
  | [] => some []
  | x :: xs => (keyOf x).bind fun k => (keysOf xs).map fun ks => k :: ks
/-- a key of a dict: an int, a text, a tuple of these -/
def keyable : D → Bool
  | .int _ => true
  | .str _ => true
  | .tuple xs => (keysOf xs).isSome
  | _ => false
open Classical in
noncomputable def dlook (kvs : List (D × D)) (k : D) : Option D := (kvs.find? fun kv => decide (kv.1 = k)).map (·.2)
theorem keyOf_eq {d : D} {k : Key} (h : keyOf d = some k) : d = dKey k := by
  cases d <;> cases h <;> rfl
theorem keyOf_dKey (k : Key) : keyOf (dKey k) = some k := by cases k <;> rfl
theorem dKey_inj {a b : Key} (h : dKey a = dKey b) : a = b := by
  have := keyOf_dKey a
  rw [h, keyOf_dKey] at this
  exact (Option.some.inj this).symm
theorem keysOf_eq : ∀ {xs : List D} {ks : List Key}, keysOf xs = some ks → xs = ks.map dKey
  | [], ks, h => by cases h; rfl
  | x :: xs, ks, h => by
    simp only [keysOf] at h
    cases hk : keyOf x with
    | none => rw [hk] at h; cases h
    | some k =>
      rw [hk] at h
      simp only [Option.bind_some, Option.map_eq_some_iff] at h
      obtain ⟨r, hr, rfl⟩ := h
      rw [List.map_cons, ← keyOf_eq hk, ← keysOf_eq hr]
theorem dKeys_inj : ∀ {a b : List Key}, a.map dKey = b.map dKey → a = b
  | [], [], _ => rfl
  | [], _ :: _, h => by cases h
  | _ :: _, [], h => by cases h
  | x :: a, y :: b, h => by
    rw [List.map_cons, List.map_cons] at h
    injection h with h1 h2
    rw [dKey_inj h1, dKeys_inj h2]
theorem rv_key {A : Wd} {H : Hp} {v : V} {k : Key} (r : RV K A H v (dKey k)) : v = kV k := by
  cases k <;> cases r <;> rfl
theorem rvs_keys {A : Wd} {H : Hp} {vs : List V} {ks : List Key} (r : RVs K A H vs (ks.map dKey)) : vs = ks.map kV := by
  induction ks generalizing vs with
  | nil => cases r; rfl
  | cons k ks ih => cases r with | cons a b => rw [List.map_cons, rv_key a, ih b]
theorem RVk.look {A : Wd} {H : Hp} {kvs : List (Key × V)} {ds : List (D × D)} (r : RVk K A H kvs ds) (k : Key) : (∃ v d, valV kvs k = some v ∧ dlook ds (dKey k) = some d ∧ RV K A H v d) ∨ (valV kvs k = none ∧ dlook ds (dKey k) = none) := by
  induction kvs generalizing ds with
  | nil => cases r; exact .inr ⟨rfl, rfl⟩
  | cons p kvs ih =>
    cases r with
    | @cons j v _ d ds a b =>
      by_cases e : j = k
      · subst e
        refine .inl ⟨v, d, valV_pos rfl, ?_, a⟩
        simp [dlook]
      · have e2 : ¬ dKey j = dKey k := fun z => e (dKey_inj z)
        rw [valV_neg (p := (j, v)) e]
        have : dlook ((dKey j, d) :: ds) (dKey k) = dlook ds (dKey k) := by simp [dlook, e2]
        rw [this]
        exact ih b
theorem RVt.look {A : Wd} {H : Hp} {kvs : List (List Key × V)} {ds : List (D × D)} (r : RVt K A H kvs ds) (k : List Key) : (∃ v d, valV kvs k = some v ∧ dlook ds (.tuple (k.map dKey)) = some d ∧ RV K A H v d) ∨ (valV kvs k = none ∧ dlook ds (.tuple (k.map dKey)) = none) := by
  induction kvs generalizing ds with
  | nil => cases r; exact .inr ⟨rfl, rfl⟩
  | cons p kvs ih =>
    cases r with
    | @cons j v _ d ds a b =>
      by_cases e : j = k
      · subst e
        refine .inl ⟨v, d, valV_pos rfl, ?_, a⟩
        simp [dlook]
      · have e2 : ¬ (PyData.tuple (j.map dKey) = PyData.tuple (k.map dKey)) := fun z => e (dKeys_inj (by injection z))
        rw [valV_neg (p := (j, v)) e]
        have : dlook ((PyData.tuple (j.map dKey), d) :: ds) (.tuple (k.map dKey)) = dlook ds (.tuple (k.map dKey)) := by simp [dlook, e2]
        rw [this]
        exact ih b
/-- the pairs of a dict, and whether its keys are tuples -/
inductive Dic where
  | k (ds : List (D × D))
  | t (ds : List (D × D))
def Dic.ps : Dic → List (D × D)
  | .k ds => ds
  | .t ds => ds
def dkD (kvs : List (Key × D)) : List (D × D) := kvs.map fun p => (dKey p.1, p.2)
def dtD (kvs : List (List Key × D)) : List (D × D) := kvs.map fun p => (.tuple (p.1.map dKey), p.2)
def isTupD : D → Bool
  | .tuple _ => true
  | _ => false
def dicD (kvs : List (D × D)) : Dic := match kvs with
  | [] => .k []
  | p :: _ => if isTupD p.1 = true then .t kvs else .k kvs
def dicOf : Vl → S → Option Dic
  | .d (.dict kvs), _ => some (dicD kvs)
  | .loc n, st => match st.sto[n]? with
    | some (.dk kvs) => some (.k (dkD kvs))
    | some (.dt kvs) => some (.t (dtD kvs))
    | _ => none
  | .own i, st => match st.env[i]? with
    | some (.own (.dk kvs)) => some (.k (dkD kvs))
    | some (.own (.dt kvs)) => some (.t (dtD kvs))
    | _ => none
  | _, _ => none
def DicAt (K : PySem.W.Frag) (A : Wd) (H : Hp) (a : Addr) : Dic → Prop
  | .k ds => ∃ kvs, Rd H a (.dK kvs) ∧ RVk K A H kvs ds
  | .t ds => ∃ kvs, Rd H a (.dT kvs) ∧ RVt K A H kvs ds
theorem dicD_k {A : Wd} {H : Hp} {kvs : List (Key × V)} {ds : List (D × D)} (r : RVk K A H kvs ds) : dicD ds = .k ds := by
  cases r with
  | nil => rfl
  | @cons k v _ d ds a b => cases k <;> rfl
theorem dicD_t {A : Wd} {H : Hp} {kvs : List (List Key × V)} {ds : List (D × D)} (r : RVt K A H kvs ds) (h : ds ≠ []) : dicD ds = .t ds := by
  cases r with
  | nil => exact absurd rfl h
  | @cons k v _ d ds a b => rfl
theorem dicOf_at {A : Wd} {H : Hp} {σ : L2.St} {st : S} (sr : SR K A H σ st) {x : Vl} {v : V} {ds : Dic} (r : RW K A H v x) (e : dicOf x st = some ds) : ∃ a, v = .ref a ∧ DicAt K A H a ds := by
  unfold dicOf at e
  split at e
  · cases e
    cases r with
    | dk n h q => exact ⟨_, rfl, by rw [dicD_k q]; exact ⟨_, h, q⟩⟩
    | dt z n h q => exact ⟨_, rfl, by rw [dicD_t q z]; exact ⟨_, h, q⟩⟩
  · rename_i st' n
    obtain ⟨a, rfl, ha⟩ := r
    split at e
    · rename_i kvs h
      cases e
      obtain ⟨b, hb, vs, h1, h2⟩ := sr.so n _ h
      rw [ha] at hb; cases hb
      exact ⟨a, rfl, ⟨vs, .inl h1, h2⟩⟩
    · rename_i kvs h
      cases e
      obtain ⟨b, hb, vs, h1, h2⟩ := sr.so n _ h
      rw [ha] at hb; cases hb
      exact ⟨a, rfl, ⟨vs, .inl h1, h2⟩⟩
    · cases e
  · rename_i st' i
    obtain ⟨a, rfl, ha⟩ := r
    split at e
    · rename_i kvs h
      cases e
      obtain ⟨b, _, hb, vs, h1, h2⟩ := sr.sl i _ h
      rw [ha] at hb; cases hb
      exact ⟨a, rfl, ⟨vs, .inl h1, h2⟩⟩
    · rename_i kvs h
      cases e
      obtain ⟨b, _, hb, vs, h1, h2⟩ := sr.sl i _ h
      rw [ha] at hb; cases hb
      exact ⟨a, rfl, ⟨vs, .inl h1, h2⟩⟩
    · cases e
  · cases e
/-- what a dict holds at a key; none where the key is of another kind -/
noncomputable def dicGet (dc : Dic) (k : D) : Option (Option D) := match dc with
  | .k ds => (keyOf k).map fun _ => dlook ds k
  | .t ds => match k with
    | .tuple xs => (keysOf xs).map fun _ => dlook ds k
    | _ => none
theorem dicGet_at {A : Wd} {H : Hp} {a : Addr} {dc : Dic} (h : DicAt K A H a dc) {k : D} {y : V} (ry : RV K A H y k) {o : Option D} (e : dicGet dc k = some o) :
    (∃ v d, o = some d ∧ DGet H a y (some v) ∧ RV K A H v d) ∨ (o = none ∧ DGet H a y none) := by
  cases dc with
  | k ds =>
    obtain ⟨kvs, hr, r⟩ := h
    simp only [dicGet, Option.map_eq_some_iff] at e
    obtain ⟨ke, hk, rfl⟩ := e
    have := keyOf_eq hk
    subst this
    have := rv_key ry
    subst this
    rcases r.look ke with ⟨v, d, h1, h2, h3⟩ | ⟨h1, h2⟩
    · exact .inl ⟨v, d, h2, .inl ⟨kvs, ke, hr, rfl, h1.symm⟩, h3⟩
    · exact .inr ⟨h2, .inl ⟨kvs, ke, hr, rfl, h1.symm⟩⟩
  | t ds =>
    obtain ⟨kvs, hr, r⟩ := h
    simp only [dicGet] at e
    split at e
    · rename_i xs
      simp only [Option.map_eq_some_iff] at e
      obtain ⟨ks, hk, rfl⟩ := e
      have := keysOf_eq hk
      subst this
      cases ry with
      | @tup b us _ nb hb rb =>
        have := rvs_keys rb
        subst this
        rcases r.look ks with ⟨v, d, h1, h2, h3⟩ | ⟨h1, h2⟩
        · exact .inl ⟨v, d, h2, .inr ⟨kvs, ks, b, hr, rfl, hb, h1.symm⟩, h3⟩
        · exact .inr ⟨h2, .inr ⟨kvs, ks, b, hr, rfl, hb, h1.symm⟩⟩
    · cases e
end
end RA
set_option Elab.async false
set_option linter.all false
set_option maxRecDepth 100000
set_option maxHeartbeats 4000000
namespace RA
open PySem PySem.Spec PyProof.Rows L2

section
variable {K : PySem.W.Frag} {mg : Str → Option Value} {W : WX}
/-! in, not in -/
def flatD : D → Bool
  | .none => true
  | .bool _ => true
  | .int _ => true
  | .str _ => true
  | _ => false
theorem flat_rv {A : Wd} {H : Hp} {v : V} {d : D} (r : RV K A H v d) (f : flatD d = true) : flatV v = true := by cases r <;> first | rfl | cases f
theorem eqV_rv {A : Wd} {H : Hp} {v u : V} {d e : D} (r : RV K A H v d) (s : RV K A H u e) (f : flatD d = true) (g : flatD e = true) : eqV v u = PyData.eqv d e := by
  cases r with
  | non => cases s <;> first | rfl | cases g
  | bl b => cases s <;> first | rfl | cases g | (cases b <;> rfl)
  | int i => cases s <;> first | rfl | cases g
  | str z => cases s <;> first | rfl | cases g
  | lst _ _ _ => cases f
  | tup _ _ _ => cases f
  | dk _ _ _ => cases f
  | dt _ _ _ _ => cases f
theorem flats_rv {A : Wd} {H : Hp} {vs : List V} {ds : List D} (r : RVs K A H vs ds) (f : ds.all flatD = true) : vs.all flatV = true := by
  induction vs generalizing ds with
  | nil => rfl
  | cons v vs ih =>
    cases r with
    | cons a b =>
      simp only [List.all_cons, Bool.and_eq_true] at f ⊢
      exact ⟨flat_rv a f.1, ih b f.2⟩
theorem inV_rv {A : Wd} {H : Hp} {vs : List V} {ds : List D} {v : V} {d : D} (r : RVs K A H vs ds) (s : RV K A H v d) (f : ds.all flatD = true) (g : flatD d = true) : inV v vs = ds.any fun z => PyData.eqv z d := by
  induction vs generalizing ds with
  | nil => cases r; rfl
  | cons u vs ih =>
    cases r with
    | cons a b =>
      simp only [List.all_cons, Bool.and_eq_true] at f
      simp only [inV, List.any_cons]
      rw [eqV_rv a s f.1 g]
      have := ih b f.2
      simp only [inV] at this
      rw [this]
/-- the answer of in -/
noncomputable def inD (d : D) (y : Vl) (st : S) : Option Bool := match dicOf y st with
  | some dc => (dicGet dc d).map (·.isSome)
  | none => match y with
    | .d (.str z) => (match d with
      | .str x => (match x.cps.toList with
        | [c] => some (decide (c ∈ z.cps.toList))
        | _ => none)
      | _ => none)
    | y => match tupOf y with
      | some ds => if ds.all flatD = true ∧ flatD d = true then some (ds.any fun z => PyData.eqv z d) else none
      | none => match seqOf y st with
        | some ds => if (ds.all flatD = true ∧ flatD d = true) ∨ (SeqAt.shaped d = true ∧ SeqAt.shaped (.list ds) = true) then some (ds.any fun z => PyData.eqv z d) else none
        | none => none
noncomputable def opInB (g : Bool → Bool) (x y : Vl) (st : S) : R Vl := match x with
  | .d d => (match inD d y st with
    | some b => .ok (.d (.bool (g b))) st
    | none => .bad)
  | _ => .bad
noncomputable abbrev opIn := opInB id
noncomputable abbrev opNotIn := opInB not
def rDIn (g : Bool → Bool) : R2 := fun x y H Q => ∃ a o, y = .ref a ∧ DGet H a x o ∧ Q (.bl (g o.isSome)) H
theorem op_dIn {X : Cx} (hu : X.A.units + 1 < cLine) : OpR X (compareOp .In) (rDIn id) := by
  intro pins s σ H x y v u Q I rx ry h
  obtain ⟨a, o, rfl, g, q⟩ := h
  cases ry
  exact d_in hu I g rx fun s' I' => ⟨.bl _, H, I', rfl, q⟩
theorem op_dNotIn {X : Cx} (hu : X.A.units + 1 < cLine) : OpR X (compareOp .NotIn) (rDIn not) := by
  intro pins s σ H x y v u Q I rx ry h
  obtain ⟨a, o, rfl, g, q⟩ := h
  cases ry
  exact d_notIn hu I g rx fun s' I' => ⟨.bl _, H, I', rfl, q⟩
def rSign (g : Bool → Bool) : R2 := fun x y H Q => ∃ (c : Nat) (z : Str), x = .str ⟨#[c]⟩ ∧ y = .str z ∧ Q (.bl (g (decide (c ∈ z.cps.toList)))) H
def rInB (K : PySem.W.Frag) (g : Bool → Bool) : R2 := fun x y H Q => ∃ p xs, y = .ref p ∧ (SqL K H p xs ∨ SqT K H p xs) ∧ flatV x = true ∧ xs.all flatV = true ∧ Q (.bl (g (inV x xs))) H
def rInDB (K : PySem.W.Frag) (g : Bool → Bool) : R2 := fun x y H Q => ∃ d ds, Dp K H x d ∧ Dp K H y (.list ds) ∧ SeqAt.shaped d = true ∧ SeqAt.shaped (.list ds) = true ∧ Q (.bl (g (ds.any fun z => PyData.eqv z d))) H
def rInAll (K : PySem.W.Frag) (g : Bool → Bool) : R2 := fun x y H Q => rDIn g x y H Q ∨ rSign g x y H Q ∨ rInB K g x y H Q ∨ rInDB K g x y H Q
theorem op_inAll {X : Cx} (hu : X.A.units + 65 < cLine) : OpR X (compareOp .In) (rInAll X.K id) := OpR.or (op_dIn (by omega)) (OpR.or op_in_sign (OpR.or op_in_seq (op_inD hu)))
theorem op_notInAll {X : Cx} (hu : X.A.units + 65 < cLine) : OpR X (compareOp .NotIn) (rInAll X.K not) := OpR.or (op_dNotIn (by omega)) (OpR.or op_notIn_sign (OpR.or op_notIn_seq (op_notInD hu)))
theorem so_inB {g : Bool → Bool} : SOp K mg W (rInAll K g) (opInB g) := fun A H σ st v v2 x y Q sr r1 r2 p => by
  unfold opInB at p
  split at p
  · rename_i d
    split at p
    · rename_i b e
      have q := p.here sr _ (.bl _)
      unfold inD at e
      split at e
      · rename_i dc hd
        obtain ⟨a, rfl, hdc⟩ := dicOf_at sr r2 hd
        simp only [Option.map_eq_some_iff] at e
        obtain ⟨o, ho, rfl⟩ := e
        rcases dicGet_at hdc r1 ho with ⟨u, d', rfl, h2, _⟩ | ⟨rfl, h2⟩
        · exact .inl ⟨a, _, rfl, h2, q⟩
        · exact .inl ⟨a, _, rfl, h2, q⟩
      · split at e
        · cases r2
          split at e
          · rename_i x
            split at e
            · rename_i c hc
              cases e
              cases r1
              exact .inr (.inl ⟨c, _, by cases x with | mk cps => (have h2 : cps = #[c] := Array.toList_inj.mp hc); rw [h2], rfl, q⟩)
            · cases e
          · cases e
        · split at e
          · rename_i ds hd
            split at e
            · rename_i h
              cases e
              obtain ⟨a, us, rfl, ha, ra⟩ := tupOf_at r2 hd
              exact .inr (.inr (.inl ⟨a, us, rfl, .inr ha, flat_rv r1 h.2, flats_rv ra h.1, by rw [inV_rv ra r1 h.1 h.2]; exact q⟩))
            · cases e
          · split at e
            · rename_i ds hd
              split at e
              · rename_i h
                cases e
                obtain ⟨a, us, rfl, ha, ra⟩ := seqOf_at sr r2 hd
                rcases h with h | h
                · exact .inr (.inr (.inl ⟨a, us, rfl, .inl ha, flat_rv r1 h.2, flats_rv ra h.1, by rw [inV_rv ra r1 h.1 h.2]; exact q⟩))
                · exact .inr (.inr (.inr ⟨d, ds, RV.dp r1 (lay_shaped h.1), .lst ha (ra.dp (by simpa [PyData.canLay0] using lay_shaped h.2)), h.1, h.2, q⟩))
              · cases e
            · cases e
    · exact p.elim
  · exact p.elim
/-! slices -/
def cutL {α : Type} (xs : List α) (lo hi : Option Int) : List α := (xs.drop (HT.sIx xs.length 0 lo)).take (HT.sIx xs.length xs.length hi - HT.sIx xs.length 0 lo)
theorem RVs.cut {A : Wd} {H : Hp} {vs : List V} {ds : List D} (r : RVs K A H vs ds) (lo hi : Option Int) : RVs K A H (cutV vs lo hi) (cutL ds lo hi) := by
  unfold cutV cutL
  rw [r.length]
  exact (r.drop _).take _
def opSl (x : Vl) (lo hi : Option Int) (st : S) : R Vl := match x with
  | .d (.str z) => if z.length ≤ sizeLine then .ok (.d (.str (cutS z lo hi))) st else .bad
  | .d (.tuple xs) => .ok (.d (.tuple (cutL xs lo hi))) st
  | x => match seqOf x st with
    | some xs => .ok (.d (.list (cutL xs lo hi))) st
    | none => .bad
def rSl3 (K : PySem.W.Frag) : V → Option Int → Option Int → Hp → VK → Prop := fun x lo hi H Q => rSlL K x lo hi H Q ∨ rSlA K x lo hi H Q ∨ rSlS x lo hi H Q
theorem sl_3 {X : Cx} : SlR X (rSl3 X.K) := SlR.or sl_list (SlR.or sl_tupA sl_str)
theorem cut_all {α : Type} {xs : List α} {lo hi : Option Int} (h : HT.sIx xs.length 0 lo = 0 ∧ HT.sIx xs.length xs.length hi = xs.length) : cutL xs lo hi = xs := by
  unfold cutL
  rw [h.1, h.2]
  simp
theorem so_sl {A : Wd} {H : Hp} {σ : L2.St} {st : S} {v : V} {x : Vl} {lo hi : Option Int} {Q : VK} (sr : SR K A H σ st) (r : RW K A H v x) (p : PostX K mg W A H σ (opSl x lo hi st) (fun w _ H' => ∀ v', RW K A H' v' w → Q v' H')) : rSl3 K v lo hi H Q := by
  unfold opSl at p
  split at p
  · cases r
    split at p
    · rename_i hz
      exact .inr (.inr ⟨_, rfl, hz, p.here sr _ (.str _)⟩)
    · exact p.elim
  · rename_i xs
    obtain ⟨a, us, rfl, ha, ra⟩ := tup_at r
    have hsz : us.length ≤ sizeLine := by
      rw [ra.length]
      cases r with
      | tup n h q =>
        have := sr.hb _ _ h
        rw [← q.length]
        exact this
    refine .inr (.inl ⟨a, us, rfl, ha, fun e => ?_, fun _ q nq => ?_⟩)
    · have e2 : cutL xs lo hi = xs := cut_all (by rw [← ra.length]; exact e)
      rw [e2] at p
      exact p.here sr _ r
    · refine p _ (stp_new nq sr.dj) (sr.newp (o := .tup (cutV us lo hi)) nq ?_) _ (rv_newtup sr nq (ra.cut lo hi))
      exact Nat.le_trans (cutV_length us lo hi) hsz
  · split at p
    · rename_i xs e
      obtain ⟨a, us, rfl, ha, ra⟩ := seqOf_at sr r e
      have hsz : us.length ≤ sizeLine := by
        rcases ha with ha | ⟨o, its, n, _, _, _, _, hz, hv⟩
        · exact (show hsz (.lst us) ≤ sizeLine from sr.hb.rd ha)
        · rw [hv.length]
          simpa using hz
      refine .inl ⟨a, us, rfl, ha, fun q nq => ?_⟩
      refine p _ (stp_new nq sr.dj) (sr.newp (o := .lst (cutV us lo hi)) nq ?_) _ (rv_newlst sr nq (ra.cut lo hi))
      exact Nat.le_trans (cutV_length us lo hi) hsz
    · exact p.elim
end
section
variable {X : Cx} {W : WX} {e : Expr} {lo hi : Option Expr} {ma : S → R Vl} {ml mh : S → R (Option Int)} {pos p2 : Pos}
def trO (K : PySem.W.Frag) (mg : Str → Option Value) (W : WX) (m : S → R (Option Int)) : TO := fun σ H Q => trX K mg W m (fun _ _ o _ H' => Q o H') σ H
abbrev AO (X : Cx) (W : WX) (e : Option Expr) (m : S → R (Option Int)) : Prop := PO X e (trO X.K X.mg W m)
theorem PO.imp {X : Cx} {e : Option Expr} {t t' : TO} (p : PO X e t) (w : ∀ σ H Q, t' σ H Q → t σ H Q) : PO X e t' := ⟨fun pins s σ H Q I h => p.run pins s σ H Q I (w σ H Q h)⟩
def oNone : S → R (Option Int) := fun st => .ok none st
theorem ao_none : AO X W none oNone := PO.imp po_none fun σ H Q ⟨A, st, sr, p⟩ => p.here sr
def asI : Vl → S → R (Option Int)
  | .d (.int i), st => .ok (some i) st
  | _, _ => .bad
def oSome (ma : S → R Vl) : S → R (Option Int) := fun st => (ma st).bind asI
theorem ao_some (h : AE X W e ma) : AO X W (some e) (oSome ma) := PO.imp (po_some h) fun σ H Q ⟨A, st, sr, p⟩ => ⟨A, st, sr, p.bind.imp fun x s1 H1 e1 sr1 p1 v rv => by
  unfold asI at p1
  split at p1
  · cases rv; exact ⟨_, rfl, p1.here sr1⟩
  · exact p1.elim⟩
def mSl (ma : S → R Vl) (ml mh : S → R (Option Int)) : S → R Vl := fun st => (ma st).bind fun x s1 => (ml s1).bind fun l s2 => (mh s2).bind fun h s3 => opSl x l h s3
theorem ae_sl (he : AE X W e ma) (hl : AO X W lo ml) (hh : AO X W hi mh) : AE X W (.Subscript e (.Slice lo hi none p2) pos) (mSl ma ml mh) :=
  PE.imp (pe_slice sl_3 he hl hh) fun σ H Q ⟨A, st, sr, p⟩ => ⟨A, st, sr, p.bind.imp fun x s1 H1 e1 sr1 p1 v rv => ⟨A, s1, sr1, p1.bind.imp fun l s2 H2 e2 sr2 p2 => ⟨A, s2, sr2, p2.bind.imp fun h s3 H3 e3 sr3 p3 =>
    so_sl sr3 ((rv.step e2).step e3) p3⟩⟩⟩
theorem ae_in {a b : Expr} {ma mb : S → R Vl} (hr : X.A.units + 65 < cLine) (ha : AE X W a ma) (hb : AE X W b mb) (hm : behindInMarks .In b = false) : AE X W (.Compare a [.In] [b] pos) (m2 opIn ma mb) := ae_cmp (op_inAll hr) so_inB ha hb hm
theorem ae_notIn {a b : Expr} {ma mb : S → R Vl} (hr : X.A.units + 65 < cLine) (ha : AE X W a ma) (hb : AE X W b mb) (hm : behindInMarks .NotIn b = false) : AE X W (.Compare a [.NotIn] [b] pos) (m2 opNotIn ma mb) := ae_cmp (op_notInAll hr) so_inB ha hb hm
theorem at_in {a b : Expr} {ma mb : S → R Vl} (hr : X.A.units + 65 < cLine) (ha : AE X W a ma) (hb : AE X W b mb) (hm : behindInMarks .In b = false) : AT X W (.Compare a [.In] [b] pos) (mB (m2 opIn ma mb)) := at_cmp (op_inAll hr) so_inB ha hb hm
theorem at_notIn {a b : Expr} {ma mb : S → R Vl} (hr : X.A.units + 65 < cLine) (ha : AE X W a ma) (hb : AE X W b mb) (hm : behindInMarks .NotIn b = false) : AT X W (.Compare a [.NotIn] [b] pos) (mB (m2 opNotIn ma mb)) := at_cmp (op_notInAll hr) so_inB ha hb hm
end
end RA
set_option Elab.async false
set_option linter.all false
set_option maxRecDepth 100000
set_option maxHeartbeats 4000000
namespace RA
open PySem PySem.Spec PyProof.Rows L2

section
variable {K : PySem.W.Frag} {mg : Str → Option Value} {W : WX}
theorem rws1 {A : Wd} {H : Hp} {vs : List V} {x : Vl} (r : RWs K A H vs [x]) : ∃ v, vs = [v] ∧ RW K A H v x := by
  cases r with | cons a b => cases b; exact ⟨_, rfl, a⟩
theorem rws2 {A : Wd} {H : Hp} {vs : List V} {x y : Vl} (r : RWs K A H vs [x, y]) : ∃ v u, vs = [v, u] ∧ RW K A H v x ∧ RW K A H u y := by
  cases r with | cons a b => cases b with | cons c d => cases d; exact ⟨_, _, rfl, a, c⟩
/-- the items of a list or a tuple -/
def itemsOf (x : Vl) (st : S) : Option (List D) := match tupOf x with
  | some ds => some ds
  | none => seqOf x st
theorem itemsOf_at {A : Wd} {H : Hp} {σ : L2.St} {st : S} (sr : SR K A H σ st) {x : Vl} {v : V} {ds : List D} (r : RW K A H v x) (e : itemsOf x st = some ds) : ∃ a vs, v = .ref a ∧ (SqL K H a vs ∨ SqT K H a vs) ∧ RVs K A H vs ds := by
  unfold itemsOf at e
  split at e
  · rename_i xs h
    cases e
    obtain ⟨a, vs, h1, h2, h3⟩ := tupOf_at r h
    exact ⟨a, vs, h1, .inr h2, h3⟩
  · obtain ⟨a, vs, h1, h2, h3⟩ := seqOf_at sr r e
    exact ⟨a, vs, h1, .inl h2, h3⟩
theorem sq_size {A : Wd} {H : Hp} {σ : L2.St} {st : S} (sr : SR K A H σ st) {a : Addr} {vs : List V} (h : SqL K H a vs ∨ SqT K H a vs) : vs.length ≤ sizeLine := by
  rcases h with h | h
  · rcases h with h | ⟨o, its, n, _, _, _, _, hz, hv⟩
    · exact (show hsz (.lst vs) ≤ sizeLine from sr.hb.rd h)
    · rw [hv.length]; simpa using hz
  · rcases h with h | ⟨o, its, n, _, _, _, hz, hv⟩
    · exact (show hsz (.tup vs) ≤ sizeLine from sr.hb.rd h)
    · rw [hv.length]; simpa using hz
/-! len -/
def fLen (ws : List Vl) (st : S) : R Vl := match ws with
  | [.d (.str z)] => if z.length ≤ sizeLine then .ok (.d (.int z.length)) st else .bad
  | [x] => (match itemsOf x st with
    | some ds => .ok (.d (.int ds.length)) st
    | none => .bad)
  | _ => .bad
theorem sc_len : SCall K mg W (fun xs H Q => ∃ x n, xs = [x] ∧ LenV K x H n ∧ Q (.int n) H) fLen := fun A H σ st vs ws Q sr r p => by
  unfold fLen at p
  split at p
  · obtain ⟨v, rfl, rv⟩ := rws1 r
    cases rv
    split at p
    · rename_i hz
      exact ⟨_, _, rfl, ⟨hz, rfl⟩, p.here sr _ (.int _)⟩
    · exact p.elim
  · obtain ⟨v, rfl, rv⟩ := rws1 r
    split at p
    · rename_i ds e
      obtain ⟨a, us, rfl, h, ra⟩ := itemsOf_at sr rv e
      refine ⟨_, us.length, rfl, h.imp (fun h => ⟨us, h, rfl⟩) (fun h => ⟨us, h, rfl⟩), p.here sr _ ?_⟩
      rw [ra.length]
      exact .int _
    · exact p.elim
  · exact p.elim
/-! list(x), tuple(x) -/
def fList (ws : List Vl) (st : S) : R Ob := match ws with
  | [x] => (match itemsOf x st with
    | some ds => .ok (.lst ds) st
    | none => .bad)
  | _ => .bad
theorem sc_list : SCallF K mg W (fun xs H Q => ∃ p ys, xs = [V.ref p] ∧ (SqL K H p ys ∨ SqT K H p ys) ∧ ∀ l, H l = none → Q (.ref l) (upd H l (.lst ys))) fList := fun A H σ st vs ws Q sr r p => by
  unfold fList at p
  split at p
  · obtain ⟨v, rfl, rv⟩ := rws1 r
    split at p
    · rename_i ds e
      obtain ⟨a, us, rfl, h, ra⟩ := itemsOf_at sr rv e
      have hz := sq_size sr h
      exact ⟨a, us, rfl, h, fun q nq => p _ (stp_new nq sr.dj) (sr.newp (o := .lst us) nq hz) q nq (sr.new (o := .lst us) nq hz) (ro_newlst nq ra)⟩
    · exact p.elim
  · exact p.elim
def fTuple (ws : List Vl) (st : S) : R Vl := match ws with
  | [.d (.tuple ds)] => .ok (.d (.tuple ds)) st
  | [x] => (match seqOf x st with
    | some ds => .ok (.d (.tuple ds)) st
    | none => .bad)
  | _ => .bad
theorem sc_tuple : SCall K mg W (fun xs H Q => ∃ p ys, xs = [V.ref p] ∧ ((SqL K H p ys ∧ ∀ l, H l = none → Q (.ref l) (upd H l (.tup ys))) ∨ (SqT K H p ys ∧ Q (.ref p) H))) fTuple := fun A H σ st vs ws Q sr r p => by
  unfold fTuple at p
  split at p
  · obtain ⟨v, rfl, rv⟩ := rws1 r
    obtain ⟨a, us, rfl, h, ra⟩ := tup_at rv
    exact ⟨a, us, rfl, .inr ⟨h, p.here sr _ rv⟩⟩
  · obtain ⟨v, rfl, rv⟩ := rws1 r
    split at p
    · rename_i ds e
      obtain ⟨a, us, rfl, h, ra⟩ := seqOf_at sr rv e
      have hz := sq_size sr (.inl h)
      exact ⟨a, us, rfl, .inl ⟨h, fun q nq => p _ (stp_new nq sr.dj) (sr.newp (o := .tup us) nq hz) _ (rv_newtup sr nq ra)⟩⟩
    · exact p.elim
  · exact p.elim
/-! all, any, sum, max, min -/
def boolsD : List D → Option (List Bool)
  | [] => some []
  | .bool b :: r => (boolsD r).map fun l => b :: l
  | _ :: _ => none
def intsD : List D → Option (List Int)
  | [] => some []
  | .int b :: r => (intsD r).map fun l => b :: l
  | _ :: _ => none
def strsD : List D → Option (List Str)
  | [] => some []
  | .str b :: r => (strsD r).map fun l => b :: l
  | _ :: _ => none
theorem boolsD_rv {A : Wd} {H : Hp} : ∀ {ds : List D} {vs : List V} {bs : List Bool}, RVs K A H vs ds → boolsD ds = some bs → vs = bs.map V.bl
  | [], _, _, r, e => by cases r; cases e; rfl
  | d :: ds, _, bs, r, e => by
    cases r with
    | cons a b =>
      cases d with
      | bool x =>
        simp only [boolsD, Option.map_eq_some_iff] at e
        obtain ⟨l, e1, rfl⟩ := e
        cases a
        rw [List.map_cons, boolsD_rv b e1]
      | _ => cases e
theorem intsD_rv {A : Wd} {H : Hp} : ∀ {ds : List D} {vs : List V} {bs : List Int}, RVs K A H vs ds → intsD ds = some bs → vs = bs.map V.int
  | [], _, _, r, e => by cases r; cases e; rfl
  | d :: ds, _, bs, r, e => by
    cases r with
    | cons a b =>
      cases d with
      | int x =>
        simp only [intsD, Option.map_eq_some_iff] at e
        obtain ⟨l, e1, rfl⟩ := e
        cases a
        rw [List.map_cons, intsD_rv b e1]
      | _ => cases e
theorem strsD_rv {A : Wd} {H : Hp} : ∀ {ds : List D} {vs : List V} {bs : List Str}, RVs K A H vs ds → strsD ds = some bs → vs = bs.map V.str
  | [], _, _, r, e => by cases r; cases e; rfl
  | d :: ds, _, bs, r, e => by
    cases r with
    | cons a b =>
      cases d with
      | str x =>
        simp only [strsD, Option.map_eq_some_iff] at e
        obtain ⟨l, e1, rfl⟩ := e
        cases a
        rw [List.map_cons, strsD_rv b e1]
      | _ => cases e
theorem rvs_strs {A : Wd} {H : Hp} : ∀ xs : List Str, RVs K A H (xs.map V.str) (xs.map PyData.str)
  | [] => .nil
  | x :: xs => .cons (.str x) (rvs_strs xs)
theorem rvs_ints {A : Wd} {H : Hp} : ∀ xs : List Int, RVs K A H (xs.map V.int) (xs.map PyData.int)
  | [] => .nil
  | x :: xs => .cons (.int x) (rvs_ints xs)
def fBools (g : List Bool → Bool) (ws : List Vl) (st : S) : R Vl := match ws with
  | [x] => (match (seqOf x st).bind boolsD with
    | some bs => .ok (.d (.bool (g bs))) st
    | none => .bad)
  | _ => .bad
abbrev fAll := fBools fun bs => bs.all id
abbrev fAny := fBools fun bs => bs.any id
theorem bools_at {A : Wd} {H : Hp} {σ : L2.St} {st : S} (sr : SR K A H σ st) {x : Vl} {v : V} {bs : List Bool} (r : RW K A H v x) (e : (seqOf x st).bind boolsD = some bs) : ∃ a, v = .ref a ∧ SqL K H a (bs.map V.bl) := by
  cases h : seqOf x st with
  | none => rw [h] at e; cases e
  | some ds =>
    rw [h] at e
    obtain ⟨a, us, rfl, hs, ra⟩ := seqOf_at sr r h
    rw [boolsD_rv ra e] at hs
    exact ⟨a, rfl, hs⟩
theorem sc_all : SCall K mg W (rAll K) fAll := fun A H σ st vs ws Q sr r p => by
  unfold fAll fBools at p
  split at p
  · obtain ⟨v, rfl, rv⟩ := rws1 r
    split at p
    · rename_i bs e
      obtain ⟨a, rfl, h⟩ := bools_at sr rv e
      exact ⟨a, bs, rfl, h, p.here sr _ (.bl _)⟩
    · exact p.elim
  · exact p.elim
theorem sc_any : SCall K mg W (rAny K) fAny := fun A H σ st vs ws Q sr r p => by
  unfold fAny fBools at p
  split at p
  · obtain ⟨v, rfl, rv⟩ := rws1 r
    split at p
    · rename_i bs e
      obtain ⟨a, rfl, h⟩ := bools_at sr rv e
      exact ⟨a, bs, rfl, h, p.here sr _ (.bl _)⟩
    · exact p.elim
  · exact p.elim
theorem ints_at {A : Wd} {H : Hp} {σ : L2.St} {st : S} (sr : SR K A H σ st) {x : Vl} {v : V} {bs : List Int} (r : RW K A H v x) (e : (seqOf x st).bind intsD = some bs) : ∃ a, v = .ref a ∧ SqL K H a (bs.map V.int) := by
  cases h : seqOf x st with
  | none => rw [h] at e; cases e
  | some ds =>
    rw [h] at e
    obtain ⟨a, us, rfl, hs, ra⟩ := seqOf_at sr r h
    rw [intsD_rv ra e] at hs
    exact ⟨a, rfl, hs⟩
def fSum (ws : List Vl) (st : S) : R Vl := match ws with
  | [x] => (match (seqOf x st).bind intsD with
    | some bs => .ok (.d (.int bs.sum)) st
    | none => .bad)
  | _ => .bad
theorem sc_sum : SCall K mg W (rSum K) fSum := fun A H σ st vs ws Q sr r p => by
  unfold fSum at p
  split at p
  · obtain ⟨v, rfl, rv⟩ := rws1 r
    split at p
    · rename_i bs e
      obtain ⟨a, rfl, h⟩ := ints_at sr rv e
      exact ⟨a, bs, rfl, h, p.here sr _ (.int _)⟩
    · exact p.elim
  · exact p.elim
/-- the greatest, the least of a list that is not empty -/
def maxI : List Int → Int
  | [] => 0
  | [x] => x
  | x :: y :: r => max x (maxI (y :: r))
def minI : List Int → Int
  | [] => 0
  | [x] => x
  | x :: y :: r => min x (minI (y :: r))
theorem maxI_mem : ∀ {xs : List Int}, xs ≠ [] → maxI xs ∈ xs
  | [], h => absurd rfl h
  | [x], _ => List.mem_singleton.mpr rfl
  | x :: y :: r, _ => by
    have := maxI_mem (xs := y :: r) (by simp)
    show max x (maxI (y :: r)) ∈ _
    rcases Int.le_total x (maxI (y :: r)) with h | h
    · rw [Int.max_eq_right h]; exact List.mem_cons_of_mem _ this
    · rw [Int.max_eq_left h]; exact List.mem_cons_self
theorem maxI_ge : ∀ {xs : List Int} {a : Int}, a ∈ xs → a ≤ maxI xs
  | [x], a, h => by rw [List.mem_singleton] at h; subst h; exact Int.le_refl _
  | x :: y :: r, a, h => by
    show a ≤ max x (maxI (y :: r))
    rcases List.mem_cons.mp h with rfl | h
    · exact Int.le_max_left _ _
    · exact Int.le_trans (maxI_ge h) (Int.le_max_right _ _)
theorem minI_mem : ∀ {xs : List Int}, xs ≠ [] → minI xs ∈ xs
  | [], h => absurd rfl h
  | [x], _ => List.mem_singleton.mpr rfl
  | x :: y :: r, _ => by
    have := minI_mem (xs := y :: r) (by simp)
    show min x (minI (y :: r)) ∈ _
    rcases Int.le_total x (minI (y :: r)) with h | h
    · rw [Int.min_eq_left h]; exact List.mem_cons_self
    · rw [Int.min_eq_right h]; exact List.mem_cons_of_mem _ this
theorem minI_le : ∀ {xs : List Int} {a : Int}, a ∈ xs → minI xs ≤ a
  | [x], a, h => by rw [List.mem_singleton] at h; subst h; exact Int.le_refl _
  | x :: y :: r, a, h => by
    show min x (minI (y :: r)) ≤ a
    rcases List.mem_cons.mp h with rfl | h
    · exact Int.min_le_left _ _
    · exact Int.le_trans (Int.min_le_right _ _) (minI_le h)
def fMax (ws : List Vl) (st : S) : R Vl := match ws with
  | [x] => (match (seqOf x st).bind intsD with
    | some bs => if bs = [] then .bad else .ok (.d (.int (maxI bs))) st
    | none => .bad)
  | _ => .bad
def fMin (ws : List Vl) (st : S) : R Vl := match ws with
  | [x] => (match (seqOf x st).bind intsD with
    | some bs => if bs = [] then .bad else .ok (.d (.int (minI bs))) st
    | none => .bad)
  | _ => .bad
theorem sc_max : SCall K mg W (rMax K) fMax := fun A H σ st vs ws Q sr r p => by
  unfold fMax at p
  split at p
  · obtain ⟨v, rfl, rv⟩ := rws1 r
    split at p
    · rename_i bs e
      split at p
      · exact p.elim
      · rename_i hne
        obtain ⟨a, rfl, h⟩ := ints_at sr rv e
        refine ⟨a, bs, rfl, h, List.length_pos_iff.mpr hne, fun m hm hmax => ?_⟩
        have : m = maxI bs := Int.le_antisymm (maxI_ge hm) (hmax _ (maxI_mem hne))
        subst this
        exact p.here sr _ (.int _)
    · exact p.elim
  · exact p.elim
theorem sc_min : SCall K mg W (rMin K) fMin := fun A H σ st vs ws Q sr r p => by
  unfold fMin at p
  split at p
  · obtain ⟨v, rfl, rv⟩ := rws1 r
    split at p
    · rename_i bs e
      split at p
      · exact p.elim
      · rename_i hne
        obtain ⟨a, rfl, h⟩ := ints_at sr rv e
        refine ⟨a, bs, rfl, h, List.length_pos_iff.mpr hne, fun m hm hmax => ?_⟩
        have : m = minI bs := Int.le_antisymm (hmax _ (minI_mem hne)) (minI_le hm)
        subst this
        exact p.here sr _ (.int _)
    · exact p.elim
  · exact p.elim
/-! abs, int -/
def fAbs (ws : List Vl) (st : S) : R Vl := match ws with
  | [.d (.int i)] => .ok (.d (.int (if i < 0 then -i else i))) st
  | _ => .bad
theorem sc_abs : SCall K mg W (fun xs H Q => ∃ i, xs = [V.int i] ∧ Q (.int (if i < 0 then -i else i)) H) fAbs := fun A H σ st vs ws Q sr r p => by
  unfold fAbs at p
  split at p
  · obtain ⟨v, rfl, rv⟩ := rws1 r
    cases rv
    exact ⟨_, rfl, p.here sr _ (.int _)⟩
  · exact p.elim
def fInt (ws : List Vl) (st : S) : R Vl := match ws with
  | [.d (.int i)] => .ok (.d (.int i)) st
  | [.d (.bool k)] => .ok (.d (.int (if k then 1 else 0))) st
  | _ => .bad
theorem sc_int : SCall K mg W (fun xs H Q => (∃ i, xs = [V.int i] ∧ Q (.int i) H) ∨ ∃ k, xs = [V.bl k] ∧ Q (.int (if k then 1 else 0)) H) fInt := fun A H σ st vs ws Q sr r p => by
  unfold fInt at p
  split at p
  · obtain ⟨v, rfl, rv⟩ := rws1 r
    cases rv
    exact .inl ⟨_, rfl, p.here sr _ (.int _)⟩
  · obtain ⟨v, rfl, rv⟩ := rws1 r
    cases rv
    exact .inr ⟨_, rfl, p.here sr _ (.int _)⟩
  · exact p.elim
/-! isinstance -/
def tyD : D → String
  | .none => "NoneType"
  | .bool _ => "bool"
  | .int _ => "int"
  | .str _ => "str"
  | .list _ => "list"
  | .tuple _ => "tuple"
  | .dict _ => "dict"
/-- no dict of the second kind -/
def noT : D → Bool
  | .dict (p :: _) => !isTupD p.1
  | _ => true
theorem tyD_rv {A : Wd} {H : Hp} {v : V} {d : D} (r : RV K A H v d) (hd : noT d = true) : TyX K H v (.type (tyD d)) := by
  cases r with
  | non => exact .base .non
  | bl b => exact .base (.bl b)
  | int b => exact .base (.int b)
  | str b => exact .base (.str b)
  | lst n h q => exact .base (.lst h)
  | tup n h q => exact .base (.tup h)
  | dk n h q =>
    rcases h with h | ⟨o, h⟩
    · exact .base (.dK h)
    · exact .fDict h
  | dt z n h q =>
    cases q with
    | nil => exact absurd rfl z
    | cons a b => cases hd
/-- a class that isinstance asks for, and its answer -/
def IsiOk (T : String) (g : D → Bool) : Prop := ∀ (K : PySem.W.Frag) (d : D), PySem.W.kitOne K (.type (tyD d)) (.type T) = some (g d)
def isIntD : D → Bool
  | .int _ => true
  | .bool _ => true
  | _ => false
def isBoolD : D → Bool
  | .bool _ => true
  | _ => false
def isStrD : D → Bool
  | .str _ => true
  | _ => false
def isListD : D → Bool
  | .list _ => true
  | _ => false
def isDictD : D → Bool
  | .dict _ => true
  | _ => false
theorem isi_of {T : String} {g : D → Bool} {b0 b1 b2 b3 b4 b5 b6 : Bool} (h0 : kitB "NoneType" T = some b0) (h1 : kitB "bool" T = some b1) (h2 : kitB "int" T = some b2) (h3 : kitB "str" T = some b3) (h4 : kitB "list" T = some b4)
    (h5 : kitB "tuple" T = some b5) (h6 : kitB "dict" T = some b6) (g0 : g .none = b0) (g1 : ∀ x, g (.bool x) = b1) (g2 : ∀ x, g (.int x) = b2) (g3 : ∀ x, g (.str x) = b3) (g4 : ∀ x, g (.list x) = b4) (g5 : ∀ x, g (.tuple x) = b5) (g6 : ∀ x, g (.dict x) = b6) : IsiOk T g := fun K d => by
  cases d with
  | none => rw [g0]; exact kit_ty h0
  | bool x => rw [g1]; exact kit_ty h1
  | int x => rw [g2]; exact kit_ty h2
  | str x => rw [g3]; exact kit_ty h3
  | list x => rw [g4]; exact kit_ty h4
  | tuple x => rw [g5]; exact kit_ty h5
  | dict x => rw [g6]; exact kit_ty h6
theorem isi_int : IsiOk "int" isIntD := isi_of (b0 := false) (b1 := true) (b2 := true) (b3 := false) (b4 := false) (b5 := false) (b6 := false) (by decide +kernel) (by decide +kernel) (by decide +kernel) (by decide +kernel) (by decide +kernel) (by decide +kernel) (by decide +kernel) rfl (fun _ => rfl) (fun _ => rfl) (fun _ => rfl) (fun _ => rfl) (fun _ => rfl) (fun _ => rfl)
theorem isi_bool : IsiOk "bool" isBoolD := isi_of (b0 := false) (b1 := true) (b2 := false) (b3 := false) (b4 := false) (b5 := false) (b6 := false) (by decide +kernel) (by decide +kernel) (by decide +kernel) (by decide +kernel) (by decide +kernel) (by decide +kernel) (by decide +kernel) rfl (fun _ => rfl) (fun _ => rfl) (fun _ => rfl) (fun _ => rfl) (fun _ => rfl) (fun _ => rfl)
theorem isi_str : IsiOk "str" isStrD := isi_of (b0 := false) (b1 := false) (b2 := false) (b3 := true) (b4 := false) (b5 := false) (b6 := false) (by decide +kernel) (by decide +kernel) (by decide +kernel) (by decide +kernel) (by decide +kernel) (by decide +kernel) (by decide +kernel) rfl (fun _ => rfl) (fun _ => rfl) (fun _ => rfl) (fun _ => rfl) (fun _ => rfl) (fun _ => rfl)
theorem isi_tuple : IsiOk "tuple" isTupD := isi_of (b0 := false) (b1 := false) (b2 := false) (b3 := false) (b4 := false) (b5 := true) (b6 := false) (by decide +kernel) (by decide +kernel) (by decide +kernel) (by decide +kernel) (by decide +kernel) (by decide +kernel) (by decide +kernel) rfl (fun _ => rfl) (fun _ => rfl) (fun _ => rfl) (fun _ => rfl) (fun _ => rfl) (fun _ => rfl)
theorem isi_list : IsiOk "list" isListD := isi_of (b0 := false) (b1 := false) (b2 := false) (b3 := false) (b4 := true) (b5 := false) (b6 := false) (by decide +kernel) (by decide +kernel) (by decide +kernel) (by decide +kernel) (by decide +kernel) (by decide +kernel) (by decide +kernel) rfl (fun _ => rfl) (fun _ => rfl) (fun _ => rfl) (fun _ => rfl) (fun _ => rfl) (fun _ => rfl)
theorem isi_dict : IsiOk "dict" isDictD := isi_of (b0 := false) (b1 := false) (b2 := false) (b3 := false) (b4 := false) (b5 := false) (b6 := true) (by decide +kernel) (by decide +kernel) (by decide +kernel) (by decide +kernel) (by decide +kernel) (by decide +kernel) (by decide +kernel) rfl (fun _ => rfl) (fun _ => rfl) (fun _ => rfl) (fun _ => rfl) (fun _ => rfl) (fun _ => rfl)
def fIsi (g : D → Bool) (x : Vl) (st : S) : R Vl := match x with
  | .d d => if noT d = true then .ok (.d (.bool (g d))) st else .bad
  | _ => .bad
end
section
variable {X : Cx} {W : WX} {e : Expr} {ma : S → R Vl}
theorem ae_isi {T : String} {g : D → Bool} (hg : IsiOk T g) (p : PE X e (tCB (rIsi X.K) (tCons (tr X.K X.mg W ma) (tCons (tC (.ty T)) tNil)))) : AE X W e (m1 (fIsi g) ma) :=
  PE.imp p fun σ H Q ⟨A, st, sr, q⟩ => ⟨A, st, sr, q.bind.imp fun x s1 H1 e1 sr1 p1 v rv => by
    unfold fIsi at p1
    split at p1
    · rename_i d
      split at p1
      · rename_i hd
        exact ⟨v, .ty T, _, _, _, rfl, .ty T, tyD_rv rv hd, hg X.K d, p1.here sr1 _ (.bl _)⟩
      · exact p1.elim
    · exact p1.elim⟩
/-- isinstance(x, (T, U)) -/
theorem ae_isi2 {T U : String} {g g2 : D → Bool} (hg : IsiOk T g) (hg2 : IsiOk U g2) (p : PE X e (tCB (rIsiT X.K) (tCons (tr X.K X.mg W ma) (tCons (tTup (tCons (tC (.ty T)) (tCons (tC (.ty U)) tNil))) tNil)))) : AE X W e (m1 (fIsi fun d => g d || g2 d) ma) :=
  PE.imp p fun σ H Q ⟨A, st, sr, q⟩ => ⟨A, st, sr, q.bind.imp fun x s1 H1 e1 sr1 p1 v rv => by
    unfold fIsi at p1
    split at p1
    · rename_i d
      split at p1
      · rename_i hd
        have two : 2 ≤ sizeLine := by decide
        refine ⟨two, fun tp ntp => ?_⟩
        have rv2 : RV X.K A (upd H1 tp (.tup [.ty T, .ty U])) v d := RV.mono (kp_new0 sr1 ntp) rv
        refine ⟨v, tp, _, _, _, _, rfl, upd_same, .cons (.ty T) (.cons (.ty U) .nil), tyD_rv rv2 hd, ?_, p1 _ (stp_new ntp sr1.dj) (sr1.newp (o := .tup [.ty T, .ty U]) ntp two) _ (.bl _)⟩
        refine kitAny_cons (hg X.K d) (fun h => kitAny_cons (hg2 X.K d) (fun h2 => ?_) (fun h2 => ?_)) (fun h => by show (g d || g2 d) = true; rw [h]; rfl)
        · show _ = some (g d || g2 d); rw [h, h2]; exact kitAny_nil
        · show (g d || g2 d) = true; rw [h, h2]; rfl
      · exact p1.elim
    · exact p1.elim⟩
end
/-! ### methods of lists that are here -/
section
variable {K : PySem.W.Frag} {mg : Str → Option Value} {W : WX} {A : Wd} {H : Hp} {σ : L2.St} {st : S}
/-- an own object, a cell of the store -/
def obOf : Vl → S → Option Ob
  | .loc n, st => st.sto[n]?
  | .own i, st => (match st.env[i]? with
    | some (.own ob) => some ob
    | _ => none)
  | _, _ => none
def S.put (st : S) (x : Vl) (ob : Ob) : S := match x with
  | .loc n => ⟨st.env, st.sto.set n ob⟩
  | .own i => st.set i (.own ob)
  | _ => st
theorem obOf_at (sr : SR K A H σ st) {x : Vl} {v : V} {ob : Ob} (r : RW K A H v x) (e : obOf x st = some ob) : ∃ a, v = .ref a ∧ RO K A H a ob ∧ A.live a ∧ a ∉ A.T := by
  unfold obOf at e
  split at e
  · rename_i st' n
    obtain ⟨a, rfl, ha⟩ := r
    obtain ⟨b, hb, ro⟩ := sr.so n _ e
    rw [ha] at hb; cases hb
    have m := List.mem_of_getElem? ha
    exact ⟨a, rfl, ro, .inl m, sr.dj.LT a m⟩
  · rename_i st' i
    obtain ⟨a, rfl, ha⟩ := r
    split at e
    · rename_i o h
      cases e
      obtain ⟨b, _, hb, ro⟩ := sr.sl i _ h
      rw [ha] at hb; cases hb
      have m := List.mem_of_getElem? ha
      exact ⟨a, rfl, ro, .inr (.inl m), sr.dj.OT a m⟩
    · cases e
  · cases e
theorem kp_updL {a : Addr} {o : HO} (hl : A.live a) : Kp A H A (upd H a o) :=
  ⟨fun b u n e => by rw [upd_ne fun z : b = a => n (by rw [z]; exact hl)]; exact e, fun _ l => .inl l⟩
theorem stp_updL {a : Addr} {o : HO} (hl : A.live a) (nt : a ∉ A.T) : Stp A H (upd H a o) where
  keep := (kp_updL hl).keep
  keepT b h := upd_ne fun z : b = a => nt (by rw [← z]; exact h)
  dom b h := by
    by_cases z : b = a
    · rw [z, upd_same]; exact fun q => nomatch q
    · rw [upd_ne z]; exact h
theorem SR.put (sr : SR K A H σ st) {x : Vl} {a : Addr} {ob ob' : Ob} {o : HO} (r : RW K A H (.ref a) x) (e : obOf x st = some ob) (hz : hsz o ≤ sizeLine) (ro : RO K A (upd H a o) a ob') : SR K A (upd H a o) σ (st.put x ob') := by
  obtain ⟨a', h1, _, hl, nt⟩ := obOf_at sr r e
  cases h1
  have kp : Kp A H A (upd H a o) := kp_updL hl
  unfold obOf at e
  split at e
  · rename_i st' n
    obtain ⟨b, hb, ha⟩ := r
    cases hb
    refine ⟨sr.le, sr.lo, by simp [S.put, sr.ll], fun j s h => ?_, fun m q h => ?_, sr.dj.step (stp_updL hl nt).dom, hb_upd sr.hb hz⟩
    · exact (sr.sl j s h).same kp ⟨[], by simp⟩ rfl rfl fun c hc => upd_ne fun z => sr.dj.LO a (List.mem_of_getElem? ha) (z ▸ List.mem_of_getElem? hc)
    · simp only [S.put] at h
      by_cases hn : n = m
      · subst hn
        have hlt : n < st.sto.length := by
          have := (List.getElem?_eq_some_iff.mp h).1
          simpa using this
        rw [List.getElem?_set_self hlt] at h
        cases h
        exact ⟨a, ha, ro⟩
      · rw [List.getElem?_set_ne hn] at h
        obtain ⟨c, h1, h2⟩ := sr.so m q h
        exact ⟨c, h1, h2.mono kp (upd_ne fun z => hn (sr.dj.LL n m a ha (z ▸ h1)))⟩
  · rename_i st' i
    obtain ⟨b, hb, ha⟩ := r
    cases hb
    refine ⟨by simp [S.put, S.set, sr.le], by simp [S.put, S.set, sr.lo], sr.ll, fun j s h => ?_, fun m q h => ?_, sr.dj.step (stp_updL hl nt).dom, hb_upd sr.hb hz⟩
    · simp only [S.put, S.set] at h
      by_cases hj : i = j
      · subst hj
        have hlt : i < st.env.length := by
          have := (List.getElem?_eq_some_iff.mp h).1
          simpa using this
        rw [List.getElem?_set_self hlt] at h
        cases h
        split at e
        · rename_i o' ho
          obtain ⟨b, h1, h2, _⟩ := sr.sl i _ ho
          rw [ha] at h2; cases h2
          exact ⟨a, h1, ha, ro⟩
        · cases e
      · rw [List.getElem?_set_ne hj] at h
        exact (sr.sl j s h).same kp ⟨[], by simp⟩ rfl rfl fun c hc => upd_ne fun z => hj (sr.dj.OO i j a ha (z ▸ hc))
    · obtain ⟨c, h1, h2⟩ := sr.so m q h
      exact ⟨c, h1, h2.mono kp (upd_ne fun z : c = a => sr.dj.LO c (List.mem_of_getElem? h1) (by rw [z]; exact List.mem_of_getElem? ha))⟩
  · cases e
/-- a list that may be written -/
def lsOf (x : Vl) (st : S) : Option (List D) := match obOf x st with
  | some (.lst ds) => some ds
  | _ => none
theorem lsOf_ob {x : Vl} {ds : List D} (h : lsOf x st = some ds) : obOf x st = some (.lst ds) := by
  unfold lsOf at h
  split at h
  · rename_i e; cases h; exact e
  · cases h
end
/-- a method by the receiver and the arguments -/
def SMt (K : PySem.W.Frag) (mg : Str → Option Value) (W : WX) (T : String) (r : V → List V → Hp → VK → Prop) (chk : Vl → S → Bool) (f : Vl → List Vl → S → R Vl) : Prop :=
  (∀ (A : Wd) (H : Hp) (σ : L2.St) (st : S) (v : V) (x : Vl), SR K A H σ st → RW K A H v x → chk x st = true → tyV K T v H) ∧
  ∀ (A : Wd) (H : Hp) (σ : L2.St) (st : S) (v : V) (vs : List V) (x : Vl) (xs : List Vl) (Q : VK), SR K A H σ st → RW K A H v x → RWs K A H vs xs → PostX K mg W A H σ (f x xs st) (fun w _ H' => ∀ v', RW K A H' v' w → Q v' H') → r v vs H Q
def mMt (chk : Vl → S → Bool) (f : Vl → List Vl → S → R Vl) (mo : S → R Vl) (ms : S → R (List Vl)) : S → R Vl := fun st => (mo st).bind fun x s1 => if chk x s1 = true then (ms s1).bind fun xs s2 => f x xs s2 else .bad
def mMt0 (chk : Vl → S → Bool) (f : Vl → List Vl → S → R Vl) (mo : S → R Vl) : S → R Vl := fun st => (mo st).bind fun x s1 => if chk x s1 = true then f x [] s1 else .bad
theorem ae_mt {X : Cx} {W : WX} {e : Expr} {T : String} {r : V → List V → Hp → VK → Prop} {chk : Vl → S → Bool} {f : Vl → List Vl → S → R Vl} {mo : S → R Vl} {ms : S → R (List Vl)} (so : SMt X.K X.mg W T r chk f)
    (p : PE X e (tBM X.K T r (tr X.K X.mg W mo) (trA X.K X.mg W ms))) : AE X W e (mMt chk f mo ms) :=
  PE.imp p fun σ H Q ⟨A, st, sr, q⟩ => ⟨A, st, sr, q.bind.imp fun x s1 H1 e1 sr1 p1 v rv => by
    split at p1
    · rename_i hk
      exact ⟨so.1 A H1 σ s1 v x sr1 rv hk, A, s1, sr1, p1.bind.imp fun xs s2 H2 e2 sr2 p2 vs rvs => so.2 A H2 σ s2 v vs x xs Q sr2 (rv.step e2) rvs p2⟩
    · exact p1.elim⟩
theorem ae_mt0 {X : Cx} {W : WX} {e : Expr} {T : String} {r : V → List V → Hp → VK → Prop} {chk : Vl → S → Bool} {f : Vl → List Vl → S → R Vl} {mo : S → R Vl} (so : SMt X.K X.mg W T r chk f)
    (p : PE X e (tBM0 X.K T r (tr X.K X.mg W mo))) : AE X W e (mMt0 chk f mo) :=
  PE.imp p fun σ H Q ⟨A, st, sr, q⟩ => ⟨A, st, sr, q.bind.imp fun x s1 H1 e1 sr1 p1 v rv => by
    split at p1
    · rename_i hk
      exact ⟨so.1 A H1 σ s1 v x sr1 rv hk, so.2 A H1 σ s1 v [] x [] Q sr1 rv .nil p1⟩
    · exact p1.elim⟩
section
variable {K : PySem.W.Frag} {mg : Str → Option Value} {W : WX}
def isLs (x : Vl) (st : S) : Bool := (lsOf x st).isSome
theorem ty_ls (A : Wd) (H : Hp) (σ : L2.St) (st : S) (v : V) (x : Vl) (sr : SR K A H σ st) (r : RW K A H v x) (h : isLs x st = true) : tyV K "list" v H := by
  unfold isLs at h
  cases e : lsOf x st with
  | none => rw [e] at h; cases h
  | some ds =>
    obtain ⟨a, rfl, ⟨vs, h1, _⟩, _⟩ := obOf_at sr r (lsOf_ob e)
    exact .inl ⟨rfl, vs, .inl (.inl h1)⟩
def fAppend (x : Vl) (ws : List Vl) (st : S) : R Vl := match ws with
  | [.d y] => (match lsOf x st with
    | some ds => if ds.length < sizeLine then .ok (.d .none) (st.put x (.lst (ds ++ [y]))) else .bad
    | none => .bad)
  | _ => .bad
theorem sm_append : SMt K mg W "list" rAppend isLs fAppend := ⟨ty_ls, fun A H σ st v vs x xs Q sr r rs p => by
  unfold fAppend at p
  split at p
  · obtain ⟨u, rfl, ru⟩ := rws1 rs
    split at p
    · rename_i y ds e
      split at p
      · rename_i hlt
        obtain ⟨a, rfl, ⟨us, h1, h2⟩, hl, nt⟩ := obOf_at sr r (lsOf_ob e)
        have hz : us.length < sizeLine := by rw [h2.length]; exact hlt
        have hz2 : hsz (.lst (us ++ [u])) ≤ sizeLine := by
          show (us ++ [u]).length ≤ _
          rw [List.length_append, List.length_singleton]; omega
        refine ⟨a, us, u, rfl, rfl, h1, hz, p _ (stp_updL hl nt) (sr.put r (lsOf_ob e) hz2 ⟨_, upd_same, (h2.append (.cons ru .nil)).mono (kp_updL hl)⟩) _ .non⟩
      · exact p.elim
    · exact p.elim
  · exact p.elim⟩
def fExtend (x : Vl) (ws : List Vl) (st : S) : R Vl := match ws with
  | [y] => (match lsOf x st, lstOf y st with
    | some ds, some es => if ds.length + es.length ≤ sizeLine then .ok (.d .none) (st.put x (.lst (ds ++ es))) else .bad
    | _, _ => .bad)
  | _ => .bad
theorem sm_extend : SMt K mg W "list" rExtend isLs fExtend := ⟨ty_ls, fun A H σ st v vs x xs Q sr r rs p => by
  unfold fExtend at p
  split at p
  · obtain ⟨u, rfl, ru⟩ := rws1 rs
    split at p
    · rename_i ds es e e2
      split at p
      · rename_i hlt
        obtain ⟨a, rfl, ⟨us, h1, h2⟩, hl, nt⟩ := obOf_at sr r (lsOf_ob e)
        obtain ⟨b, zs, rfl, g1, g2⟩ := lstOf_at sr ru e2
        have hz : us.length + zs.length ≤ sizeLine := by rw [h2.length, g2.length]; exact hlt
        have hz2 : hsz (.lst (us ++ zs)) ≤ sizeLine := by
          show (us ++ zs).length ≤ _
          rw [List.length_append]; exact hz
        exact ⟨a, b, us, zs, rfl, rfl, h1, g1, hz, p _ (stp_updL hl nt) (sr.put r (lsOf_ob e) hz2 ⟨_, upd_same, (h2.append g2).mono (kp_updL hl)⟩) _ .non⟩
      · exact p.elim
    · exact p.elim
  · exact p.elim⟩
def fPop (x : Vl) (ws : List Vl) (st : S) : R Vl := match ws with
  | [] => (match lsOf x st with
    | some ds => (match ds[ds.length - 1]? with
      | some y => .ok (.d y) (st.put x (.lst ds.dropLast))
      | none => .bad)
    | none => .bad)
  | _ => .bad
theorem RVs.dropLast {A : Wd} {H : Hp} {vs : List V} {ds : List D} (r : RVs K A H vs ds) : RVs K A H vs.dropLast ds.dropLast := by
  rw [List.dropLast_eq_take, List.dropLast_eq_take, r.length]
  exact r.take _
theorem RVs.eraseIdx {A : Wd} {H : Hp} {vs : List V} {ds : List D} (r : RVs K A H vs ds) : ∀ i : Nat, RVs K A H (vs.eraseIdx i) (ds.eraseIdx i) := by
  induction vs generalizing ds with
  | nil => cases r; intro i; exact .nil
  | cons v vs ih =>
    cases r with
    | cons a b =>
      intro i
      cases i with
      | zero => exact b
      | succ i => exact .cons a (ih b i)
theorem sm_pop : SMt K mg W "list" rPop isLs fPop := ⟨ty_ls, fun A H σ st v vs x xs Q sr r rs p => by
  unfold fPop at p
  split at p
  · cases rs
    split at p
    · rename_i ds e
      split at p
      · rename_i y ey
        obtain ⟨a, rfl, ⟨us, h1, h2⟩, hl, nt⟩ := obOf_at sr r (lsOf_ob e)
        obtain ⟨u, hu, ru⟩ := h2.get ey
        have hz2 : hsz (.lst us.dropLast) ≤ sizeLine := by
          have := sr.hb _ _ h1
          have h3 : us.length ≤ sizeLine := this
          show us.dropLast.length ≤ _
          rw [List.length_dropLast]; omega
        refine ⟨a, us, u, rfl, rfl, h1, by rw [h2.length]; exact hu, p _ (stp_updL hl nt) (sr.put r (lsOf_ob e) hz2 ⟨_, upd_same, h2.dropLast.mono (kp_updL hl)⟩) _ (RV.mono (kp_updL hl) ru)⟩
      · exact p.elim
    · exact p.elim
  · exact p.elim⟩
def fPopAt (x : Vl) (ws : List Vl) (st : S) : R Vl := match ws with
  | [.d (.int i)] => (match lsOf x st with
    | some ds => if 0 ≤ i ∧ i < 2 ^ 63 then (match ds[i.toNat]? with
      | some y => .ok (.d y) (st.put x (.lst (ds.eraseIdx i.toNat)))
      | none => .bad) else .bad
    | none => .bad)
  | _ => .bad
theorem sm_popAt : SMt K mg W "list" rPopAt isLs fPopAt := ⟨ty_ls, fun A H σ st v vs x xs Q sr r rs p => by
  unfold fPopAt at p
  split at p
  · rename_i i
    obtain ⟨u, rfl, ru⟩ := rws1 rs
    cases ru
    split at p
    · rename_i ds e
      split at p
      · rename_i hi
        split at p
        · rename_i y ey
          obtain ⟨a, rfl, ⟨us, h1, h2⟩, hl, nt⟩ := obOf_at sr r (lsOf_ob e)
          obtain ⟨u, hu, ru⟩ := h2.get ey
          have h3 : us.length ≤ sizeLine := sr.hb _ _ h1
          have hz2 : hsz (.lst (us.eraseIdx i.toNat)) ≤ sizeLine := Nat.le_trans (len_erase us i.toNat) h3
          have hlt := (List.getElem?_eq_some_iff.mp hu).1
          refine ⟨a, us, i, i.toNat, u, rfl, rfl, h1, by omega, hi.2, ?_, hu, p _ (stp_updL hl nt) (sr.put r (lsOf_ob e) hz2 ⟨_, upd_same, (h2.eraseIdx _).mono (kp_updL hl)⟩) _ (RV.mono (kp_updL hl) ru)⟩
          have hx : ixN us.length i = some i.toNat := by
            unfold ixN
            rw [if_pos hi.1, if_pos (by omega)]
          exact (ixN_seq hx).1
        · exact p.elim
      · exact p.elim
    · exact p.elim
  · exact p.elim⟩
end
end RA
set_option Elab.async false
set_option linter.all false
set_option maxRecDepth 100000
set_option maxHeartbeats 4000000
namespace RA
open PySem PySem.Spec PyProof.Rows L2

/-- another way to walk -/
theorem PI.or {X : Cx} {tg e : Expr} {t u : TI} (h : PI X tg e t) (g : PI X tg e u) : PI X tg e (fun σ H R => t σ H R ∨ u σ H R) :=
  ⟨fun pins s σ H R I q => q.elim (fun q => h.run pins s σ H R I q) fun q => g.run pins s σ H R I q⟩
def always : S → Prop := fun _ => True
section
variable {K : PySem.W.Frag} {mg : Str → Option Value} {W : WX} {A : Wd} {H : Hp} {σ : L2.St} {st : S}
theorem RVs.at {vs : List V} {ds : List D} (r : RVs K A H vs ds) {i : Nat} {x : V} (h : vs[i]? = some x) : ∃ d, ds[i]? = some d ∧ RV K A H x d := by
  have hi : i < ds.length := by rw [← r.length]; exact (List.getElem?_eq_some_iff.mp h).1
  obtain ⟨v, h1, h2⟩ := r.get (List.getElem?_eq_getElem hi)
  rw [h] at h1
  cases h1
  exact ⟨_, List.getElem?_eq_getElem hi, h2⟩
def isLive : Vl → Bool
  | .own _ => true
  | .loc _ => true
  | _ => false
/-- the items of a value that is walked -/
def srcOf (x : Vl) (st : S) : Option Src := match isLive x with
  | true => (lsOf x st).map fun ds => ⟨ds, fun s => lsOf x s = some ds, true⟩
  | false => (itemsOf x st).map fun ds => ⟨ds, always, false⟩
def fItems (x : Vl) (st : S) : R Src := match srcOf x st with
  | some src => .ok src st
  | none => .bad
theorem lsOf_lst {x : Vl} {ds : List D} (h : lsOf x st = some ds) : lstOf x st = some ds := by
  have e := lsOf_ob h
  unfold obOf at e
  split at e
  · simp only [lstOf, e]
  · split at e
    · rename_i o ho
      cases e
      simp only [lstOf, ho]
    · cases e
  · cases e
/-- the list at a stands with the items ds, at each later state -/
def Stands (K : PySem.W.Frag) (A : Wd) (H : Hp) (a : Addr) (src : Src) : Prop :=
  ∀ A2 H2 σ2 st2, Kp A H A2 H2 → (src.fix = true → A2.O = A.O ∧ A2.L = A.L) → SR K A2 H2 σ2 st2 → src.chk st2 → ∃ us, SqL K H2 a us ∧ RVs K A2 H2 us src.items
def StandsT (K : PySem.W.Frag) (A : Wd) (H : Hp) (a : Addr) (src : Src) : Prop :=
  ∀ A2 H2 σ2 st2, Kp A H A2 H2 → (src.fix = true → A2.O = A.O ∧ A2.L = A.L) → SR K A2 H2 σ2 st2 → src.chk st2 → ∃ us, SqT K H2 a us ∧ RVs K A2 H2 us src.items
theorem Stands.ok {a : Addr} {src : Src} (h : Stands K A H a src) (sz : src.items.length ≤ sizeLine) : ItOk K (Itl K a) A H src.items src.chk src.fix where
  sz := sz
  go i A2 H2 σ2 st2 hi kp fx sr ck := by
    obtain ⟨us, h1, h2⟩ := h A2 H2 σ2 st2 kp fx sr ck
    exact ⟨us, us[i]'(by rw [h2.length]; exact hi), h1, by simp⟩
  stop A2 H2 σ2 st2 kp fx sr ck := by
    obtain ⟨us, h1, h2⟩ := h A2 H2 σ2 st2 kp fx sr ck
    exact ⟨us, h1, by rw [h2.length]; exact Nat.le_refl _⟩
  yld i A2 H2 σ2 st2 x H' hi kp fx sr ck y := by
    obtain ⟨us, h1, h2⟩ := h A2 H2 σ2 st2 kp fx sr ck
    obtain ⟨rfl, hx⟩ := y
    exact ⟨Stp.refl _ _, sr, h2.at (hx us h1)⟩
theorem StandsT.ok {a : Addr} {src : Src} (h : StandsT K A H a src) (sz : src.items.length ≤ sizeLine) : ItOk K (Itt K a) A H src.items src.chk src.fix where
  sz := sz
  go i A2 H2 σ2 st2 hi kp fx sr ck := by
    obtain ⟨us, h1, h2⟩ := h A2 H2 σ2 st2 kp fx sr ck
    exact ⟨us, us[i]'(by rw [h2.length]; exact hi), h1, by simp⟩
  stop A2 H2 σ2 st2 kp fx sr ck := by
    obtain ⟨us, h1, h2⟩ := h A2 H2 σ2 st2 kp fx sr ck
    exact ⟨us, h1, by rw [h2.length]; exact Nat.le_refl _⟩
  yld i A2 H2 σ2 st2 x H' hi kp fx sr ck y := by
    obtain ⟨us, h1, h2⟩ := h A2 H2 σ2 st2 kp fx sr ck
    obtain ⟨rfl, hx⟩ := y
    exact ⟨Stp.refl _ _, sr, h2.at (hx us h1)⟩
/-- a value that is walked: a list that stands, or a tuple -/
theorem srcOf_at (sr : SR K A H σ st) {x : Vl} {v : V} {src : Src} (r : RW K A H v x) (e : srcOf x st = some src) : src.items.length ≤ sizeLine ∧ src.chk st ∧ ∃ a, v = .ref a ∧ ((tupOf x = none ∧ Stands K A H a src) ∨ (tupOf x ≠ none ∧ StandsT K A H a src)) := by
  unfold srcOf at e
  split at e
  · simp only [Option.map_eq_some_iff] at e
    obtain ⟨ds, h, rfl⟩ := e
    obtain ⟨a, vs, rfl, h1, h2⟩ := lstOf_at sr r (lsOf_lst h)
    refine ⟨by rw [← h2.length]; exact sr.hb _ _ h1, h, a, rfl, .inl ⟨?_, fun A2 H2 σ2 st2 kp fx sr2 ck => ?_⟩⟩
    · cases x <;> first | rfl | (rename_i hl; cases hl)
    have r2 : RW K A2 H2 (.ref a) x := by
      obtain ⟨eO, eL⟩ := fx rfl
      cases x with
      | own i => obtain ⟨b, hb, ho⟩ := r; exact ⟨b, hb, by rw [eO]; exact ho⟩
      | loc n => obtain ⟨b, hb, ho⟩ := r; exact ⟨b, hb, by rw [eL]; exact ho⟩
      | d x => rename_i hl; cases hl
      | frz x => rename_i hl; cases hl
      | kt x => rename_i hl; cases hl
    obtain ⟨b, us, hb, g1, g2⟩ := lstOf_at sr2 r2 (lsOf_lst ck)
    cases hb
    exact ⟨us, .inl (.inl g1), g2⟩
  · rename_i hl
    simp only [Option.map_eq_some_iff] at e
    obtain ⟨ds, h, rfl⟩ := e
    unfold itemsOf at h
    split at h
    · rename_i ds' ht
      cases h
      have hne : tupOf x ≠ none := by rw [ht]; exact fun z => nomatch z
      refine ⟨?_, True.intro, ?_⟩
      · obtain ⟨a, vs, rfl, h1, h2⟩ := tupOf_at r ht
        rw [← h2.length]; exact sq_size sr (.inr h1)
      · unfold tupOf at ht
        split at ht
        · cases ht
          cases r with
          | tup n h q => exact ⟨_, rfl, .inr ⟨hne, fun A2 H2 σ2 st2 kp fx sr2 ck => ⟨_, .inl (.inl (kp.at n h).2), q.mono kp⟩⟩⟩
        · cases ht
          obtain ⟨a, vs, rfl, h, q⟩ := r
          exact ⟨_, rfl, .inr ⟨hne, fun A2 H2 σ2 st2 kp fx sr2 ck => ⟨_, .inr h, q.mono kp⟩⟩⟩
        · cases ht
    · rename_i htn
      refine ⟨?_, True.intro, ?_⟩
      · obtain ⟨a, vs, rfl, h1, h2⟩ := seqOf_at sr r h
        rw [← h2.length]; exact sq_size sr (.inl h1)
      · unfold seqOf at h
        split at h
        · cases h
          obtain ⟨a, vs, rfl, h, q⟩ := r
          refine ⟨_, rfl, .inl ⟨rfl, fun A2 H2 σ2 st2 kp fx sr2 ck => ⟨vs, ?_, q.mono kp⟩⟩⟩
          rcases h with ⟨n, o, h⟩ | h
          · exact .inl (.inr ⟨o, (kp.at n h).2⟩)
          · exact .inr h
        · unfold lstOf at h
          split at h
          · cases h
            cases r with
            | lst n h q => exact ⟨_, rfl, .inl ⟨rfl, fun A2 H2 σ2 st2 kp fx sr2 ck => ⟨_, .inl (.inl (kp.at n h).2), q.mono kp⟩⟩⟩
          · cases hl
          · cases hl
          · cases h
end
section
variable {X : Cx} {W : WX} {tg e e2 : Expr} {ma mb : S → R Vl}
def mItems (ma : S → R Vl) : S → R Src := fun st => (ma st).bind fItems
theorem kp_refl {A : Wd} {H : Hp} : Kp A H A H := ⟨fun _ _ _ h => h, fun _ l => .inl l⟩
theorem ai_items (ha : AE X W e ma) : AI X W tg e (mItems ma) :=
  PI.imp (PI.or (pi_list (tg := tg) ha) (pi_tup ha)) fun σ H Q ⟨A, st, sr, p⟩ => by
    have q : PostX X.K X.mg W A H σ (ma st) _ := PostX.bind p
    cases em : ma st with
    | bad => rw [em] at q; exact q.elim
    | exc x s1 => rw [em] at q; exact .inl ⟨A, st, sr, by rw [em]; exact q⟩
    | ok x s1 =>
      rw [em] at q
      cases es : srcOf x s1 with
      | none =>
        refine .inl ⟨A, st, sr, ?_⟩
        rw [em]
        intro H1 e1 sr1 v rv
        have := q H1 e1 sr1
        simp only [fItems, es] at this
        exact this.elim
      | some src =>
        have key : ∀ {H1 v}, Stp A H H1 → SR X.K A H1 σ s1 → RW X.K A H1 v x → (∀ J, ItOk X.K J A H1 src.items src.chk src.fix → Q J H1) ∧ src.items.length ≤ sizeLine ∧ src.chk s1 ∧ ∃ a, v = .ref a ∧ ((tupOf x = none ∧ Stands X.K A H1 a src) ∨ (tupOf x ≠ none ∧ StandsT X.K A H1 a src)) := by
          intro H1 v e1 sr1 rv
          have p1 := q H1 e1 sr1
          simp only [fItems, es] at p1
          exact ⟨p1.here sr1, srcOf_at sr1 rv es⟩
        cases hx : tupOf x with
        | some ds =>
          refine .inr ⟨A, st, sr, ?_⟩
          rw [em]
          intro H1 e1 sr1 v rv
          obtain ⟨p1, hz, hk, a, rfl, h | h⟩ := key e1 sr1 rv
          · rw [hx] at h; cases h.1
          · obtain ⟨us, h1, _⟩ := h.2 A H1 σ s1 kp_refl (fun _ => ⟨rfl, rfl⟩) sr1 hk
            exact ⟨a, rfl, ⟨us, h1⟩, p1 _ (h.2.ok hz)⟩
        | none =>
          refine .inl ⟨A, st, sr, ?_⟩
          rw [em]
          intro H1 e1 sr1 v rv
          obtain ⟨p1, hz, hk, a, rfl, h | h⟩ := key e1 sr1 rv
          · obtain ⟨us, h1, _⟩ := h.2 A H1 σ s1 kp_refl (fun _ => ⟨rfl, rfl⟩) sr1 hk
            exact ⟨a, rfl, ⟨us, h1⟩, p1 _ (h.2.ok hz)⟩
          · exact absurd hx h.1
/-! range -/
def rangeD (lo : Int) (n : Nat) : List D := (List.range n).map fun i : Nat => .int (lo + (i : Nat))
def fRange1 (ws : List Vl) (st : S) : R Src := match ws with
  | [.d (.int j)] => if -(2 ^ 62) ≤ j ∧ j < 2 ^ 62 ∧ j.toNat ≤ sizeLine then .ok ⟨rangeD 0 j.toNat, always, false⟩ st else .bad
  | _ => .bad
def fRange2 (ws : List Vl) (st : S) : R Src := match ws with
  | [.d (.int i), .d (.int j)] => if (-(2 ^ 62) ≤ i ∧ i < 2 ^ 62 ∧ -(2 ^ 62) ≤ j ∧ j < 2 ^ 62) ∧ (j - i).toNat ≤ sizeLine then .ok ⟨rangeD i (j - i).toNat, always, false⟩ st else .bad
  | _ => .bad
def mSrc (f : List Vl → S → R Src) (ms : S → R (List Vl)) : S → R Src := fun st => (ms st).bind f
theorem rangeD_length (lo : Int) (n : Nat) : (rangeD lo n).length = n := by simp [rangeD]
theorem range_ok {K : PySem.W.Frag} {A : Wd} {H : Hp} {lo : Int} {n : Nat} (h : n ≤ sizeLine) : ItOk K (Itr lo n) A H (rangeD lo n) always false where
  sz := by rw [rangeD_length]; exact h
  go i A2 H2 σ2 st2 hi kp fx sr ck := by rw [rangeD_length] at hi; exact hi
  stop A2 H2 σ2 st2 kp fx sr ck := by rw [rangeD_length]; exact Nat.le_refl _
  yld i A2 H2 σ2 st2 x H' hi kp fx sr ck y := by
    rw [rangeD_length] at hi
    obtain ⟨rfl, rfl⟩ := y
    exact ⟨Stp.refl _ _, sr, _, by simp [rangeD, hi], .int _⟩
theorem ai_range1 {a : Expr} {ms : S → R (List Vl)} {p pos : Pos} (hg : Gl X "range") (hm : X.mg "range" = none) (ha : AA X W [a] ms) (hs : starEach [a] X.env = [(false, eval a X.env)] := by rfl) : AI X W tg (.Call (.Name "range" p) [a] [] pos) (mSrc fRange1 ms) :=
  PI.imp (pi_range1 hg hm ha hs) fun σ H Q ⟨A, st, sr, q⟩ => ⟨A, st, sr, q.bind.imp fun ws s1 H1 e1 sr1 p1 vs rv => by
    unfold fRange1 at p1
    split at p1
    · obtain ⟨v, rfl, rv'⟩ := rws1 rv
      split at p1
      · rename_i h
        cases (rv' : RV X.K A H1 v _)
        exact ⟨_, rfl, h.1, h.2.1, p1.here sr1 _ (range_ok h.2.2)⟩
      · exact p1.elim
    · exact p1.elim⟩
theorem ai_range2 {a b : Expr} {ms : S → R (List Vl)} {p pos : Pos} (hg : Gl X "range") (hm : X.mg "range" = none) (ha : AA X W [a, b] ms) (hs : starEach [a, b] X.env = [(false, eval a X.env), (false, eval b X.env)] := by rfl) (hs2 : starEach [b] X.env = [(false, eval b X.env)] := by rfl) :
    AI X W tg (.Call (.Name "range" p) [a, b] [] pos) (mSrc fRange2 ms) :=
  PI.imp (pi_range2 hg hm ha hs hs2) fun σ H Q ⟨A, st, sr, q⟩ => ⟨A, st, sr, q.bind.imp fun ws s1 H1 e1 sr1 p1 vs rv => by
    unfold fRange2 at p1
    split at p1
    · obtain ⟨v, u, rfl, rv, ru⟩ := rws2 rv
      cases rv
      cases ru
      split at p1
      · rename_i h
        exact ⟨_, _, rfl, h.1, p1.here sr1 _ (range_ok h.2)⟩
      · exact p1.elim
    · exact p1.elim⟩
/-! pairs: enumerate, zip -/
def pairD (xs ys : List D) : List D := List.zipWith (fun a b => .tuple [a, b]) xs ys
def numD (n : Nat) : List D := (List.range n).map fun i : Nat => .int (i : Nat)
theorem pair_yld {K : PySem.W.Frag} {A : Wd} {H : Hp} {σ : L2.St} {st : S} (sr : SR K A H σ st) {T : Addr} {x y : V} {a b : D} (nT : H T = none) (rx : RV K A H x a) (ry : RV K A H y b) :
    Stp A H (upd H T (.tup [x, y])) ∧ SR K A (upd H T (.tup [x, y])) σ st ∧ RV K A (upd H T (.tup [x, y])) (.ref T) (.tuple [a, b]) :=
  ⟨stp_new nT sr.dj, sr.newp (o := .tup [x, y]) nT (show 2 ≤ sizeLine by decide), rv_newtup sr nT (.cons rx (.cons ry .nil))⟩
theorem Stands.enum {K : PySem.W.Frag} {A : Wd} {H : Hp} {a : Addr} {src : Src} (h : Stands K A H a src) (sz : src.items.length ≤ sizeLine) : ItOk K (Ite K a) A H (pairD (numD src.items.length) src.items) src.chk src.fix where
  sz := by simp [pairD, numD]; exact sz
  go i A2 H2 σ2 st2 hi kp fx sr ck := by
    obtain ⟨us, h1, h2⟩ := h A2 H2 σ2 st2 kp fx sr ck
    have hi' : i < us.length := by rw [h2.length]; simpa [pairD, numD] using hi
    exact ⟨us, us[i], h1, by simp⟩
  stop A2 H2 σ2 st2 kp fx sr ck := by
    obtain ⟨us, h1, h2⟩ := h A2 H2 σ2 st2 kp fx sr ck
    exact ⟨us, h1, by rw [h2.length]; simp [pairD, numD]⟩
  yld i A2 H2 σ2 st2 x H' hi kp fx sr ck y := by
    obtain ⟨us, h1, h2⟩ := h A2 H2 σ2 st2 kp fx sr ck
    have hi' : i < src.items.length := by simpa [pairD, numD] using hi
    obtain ⟨T, u, rfl, nT, rfl, hu⟩ := y
    obtain ⟨d, hd, rd⟩ := h2.at (hu us h1)
    obtain ⟨g1, g2, g3⟩ := pair_yld sr nT (.int (i : Nat)) rd
    refine ⟨g1, g2, _, ?_, g3⟩
    simp only [pairD, numD, List.getElem?_zipWith, List.getElem?_map, hd]
    simp [hi']
def enumSrc (src : Src) : Src := ⟨pairD (numD src.items.length) src.items, src.chk, src.fix⟩
def fEnum (x : Vl) (st : S) : R Src := match tupOf x with
  | some _ => .bad
  | none => (fItems x st).bind fun src s1 => .ok (enumSrc src) s1
def mEnum (ma : S → R Vl) : S → R Src := fun st => (ma st).bind fEnum
theorem x_enum {es : List Expr} {kk : Nat} {p pos tpos : Pos} (hm : X.mg "enumerate" = none) (ha : AE X W e ma) (hg : Gl X "enumerate" := by rfl) (hs : starEach [e] X.env = [(false, eval e X.env)] := by rfl)
    (hs1 : starEach [e] X.env = (false, eval e X.env) :: starEach [] X.env := by rfl) :
    AI X W (.Tuple es kk tpos) (.Call (.Name "enumerate" p) [e] [] pos) (mEnum ma) :=
  PI.imp (pi_enum hg hm (pa_cons ha pa_nil hs1) hs) fun σ H Q ⟨A, st, sr, p⟩ => ⟨A, st, sr, by
    unfold mEnum at p
    exact (PostX.bind p).imp fun x s1 H1 e1 sr1 p1 v rv => by
      unfold fEnum at p1
      split at p1
      · exact p1.elim
      · rename_i hn
        unfold fItems at p1
        cases es : srcOf x s1 with
        | none => rw [es] at p1; exact p1.elim
        | some src =>
          rw [es] at p1
          have p2 := PostX.here p1 sr1
          obtain ⟨hz, hk, a, rfl, h | h⟩ := srcOf_at sr1 rv es
          · obtain ⟨us, h1, _⟩ := h.2 A H1 σ s1 kp_refl (fun _ => ⟨rfl, rfl⟩) sr1 hk
            exact ⟨a, us, rfl, h1, p2 _ (h.2.enum hz)⟩
          · exact absurd hn h.1⟩
end
end RA
set_option Elab.async false
set_option linter.all false
set_option maxRecDepth 100000
set_option maxHeartbeats 4000000
namespace RA
open PySem PySem.Spec PyProof.Rows L2

/-! ### short words for the printed terms -/
theorem hu65 {k : Nat} {A : Around} (r : Room k A) : A.units + 65 < cLine := by have := r.un; omega
section
variable {X : Cx} {W : WX} {k : Nat} {e a b c d : Expr} {es : List Expr} {ma mb mc : S → R Vl} {pos p : Pos} {ms : S → R (List Vl)}
theorem x_add (ha : AE X W a ma) (hb : AE X W b mb) : AE X W (.BinOp a .Add b pos) (m2 opAdd ma mb) := ae_op op_add4 so_add ha hb
theorem x_sub (ha : AE X W a ma) (hb : AE X W b mb) : AE X W (.BinOp a .Sub b pos) (m2 opSub ma mb) := ae_op op_sub so_sub ha hb
theorem x_mul (ha : AE X W a ma) (hb : AE X W b mb) : AE X W (.BinOp a .Mult b pos) (m2 opMul ma mb) := ae_op op_mul so_mul ha hb
theorem x_mod (ha : AE X W a ma) (hb : AE X W b mb) : AE X W (.BinOp a .Mod b pos) (m2 opMod ma mb) := ae_op op_mod so_mod ha hb
theorem x_fdiv (ha : AE X W a ma) (hb : AE X W b mb) : AE X W (.BinOp a .FloorDiv b pos) (m2 opFdiv ma mb) := ae_op op_fdiv so_fdiv ha hb
theorem x_pow (ha : AE X W a ma) (hb : AE X W b mb) : AE X W (.BinOp a .Pow b pos) (m2 opPow ma mb) := ae_op op_pow so_pow ha hb
theorem x_shr (ha : AE X W a ma) (hb : AE X W b mb) : AE X W (.BinOp a .RShift b pos) (m2 opShr ma mb) := ae_op op_shr so_shr ha hb
theorem x_band (ha : AE X W a ma) (hb : AE X W b mb) : AE X W (.BinOp a .BitAnd b pos) (m2 opAnd ma mb) := ae_op op_and so_and ha hb
def opNeg (x : Vl) (st : S) : R Vl := match x with
  | .d (.int i) => .ok (.d (.int (-i))) st
  | _ => .bad
theorem so_neg {K : PySem.W.Frag} {mg : Str → Option Value} : SUn K mg W (rU fun i => .int (-i)) opNeg := fun A H σ st v x Q sr r p => by
  unfold opNeg at p
  split at p
  · cases r
    exact ⟨_, rfl, p.here sr _ (.int _)⟩
  · exact p.elim
theorem x_neg (ha : AE X W a ma) : AE X W (.UnaryOp .USub a pos) (m1 opNeg ma) := ae_un un_neg so_neg ha
theorem x_eq (hr : Room k X.A) (ha : AE X W a ma) (hb : AE X W b mb) : AE X W (.Compare a [.Eq] [b] pos) (m2 opEq ma mb) := ae_cmp (op_eqD hr.units) so_eq ha hb (nomark _)
theorem x_ne (hr : Room k X.A) (ha : AE X W a ma) (hb : AE X W b mb) : AE X W (.Compare a [.NotEq] [b] pos) (m2 opNe ma mb) := ae_cmp (op_neD hr.units) so_ne ha hb (nomark _)
theorem x_lt (ha : AE X W a ma) (hb : AE X W b mb) : AE X W (.Compare a [.Lt] [b] pos) (m2 opLt ma mb) := ae_cmp op_lt2 so_lt ha hb (nomark _)
theorem x_le (ha : AE X W a ma) (hb : AE X W b mb) : AE X W (.Compare a [.LtE] [b] pos) (m2 opLe ma mb) := ae_cmp op_le so_le ha hb (nomark _)
theorem x_gt (ha : AE X W a ma) (hb : AE X W b mb) : AE X W (.Compare a [.Gt] [b] pos) (m2 opGt ma mb) := ae_cmp op_gt so_gt ha hb (nomark _)
theorem x_ge (ha : AE X W a ma) (hb : AE X W b mb) : AE X W (.Compare a [.GtE] [b] pos) (m2 opGe ma mb) := ae_cmp op_ge so_ge ha hb (nomark _)
theorem x_is (ha : AE X W a ma) (hb : AE X W b mb) : AE X W (.Compare a [.Is] [b] pos) (m2 opIsN ma mb) := ae_cmp op_isN so_isN ha hb (nomark _)
theorem x_isnt (ha : AE X W a ma) (hb : AE X W b mb) : AE X W (.Compare a [.IsNot] [b] pos) (m2 opNotN ma mb) := ae_cmp op_notN so_notN ha hb (nomark _)
theorem x_in (hr : Room k X.A) (ha : AE X W a ma) (hb : AE X W b mb) (hm : behindInMarks .In b = false := by rfl) : AE X W (.Compare a [.In] [b] pos) (m2 opIn ma mb) := ae_in (hu65 hr) ha hb hm
theorem x_nin (hr : Room k X.A) (ha : AE X W a ma) (hb : AE X W b mb) (hm : behindInMarks .NotIn b = false := by rfl) : AE X W (.Compare a [.NotIn] [b] pos) (m2 opNotIn ma mb) := ae_notIn (hu65 hr) ha hb hm
/-- a comparison that is no mark, as a test -/
theorem tt (ha : AE X W e ma) (he : ∀ whole, isTrue e X.env whole = (do let v ← whole; standAt e.pos; holding [v] (truthy v)) := by intro _; rfl) : AT X W e (mB ma) := at_val ha he
theorem t_eq (hr : Room k X.A) (ha : AE X W a ma) (hb : AE X W b mb) : AT X W (.Compare a [.Eq] [b] pos) (mB (m2 opEq ma mb)) := at_cmp (op_eqD hr.units) so_eq ha hb (nomark _)
theorem t_ne (hr : Room k X.A) (ha : AE X W a ma) (hb : AE X W b mb) : AT X W (.Compare a [.NotEq] [b] pos) (mB (m2 opNe ma mb)) := at_cmp (op_neD hr.units) so_ne ha hb (nomark _)
theorem t_lt (ha : AE X W a ma) (hb : AE X W b mb) : AT X W (.Compare a [.Lt] [b] pos) (mB (m2 opLt ma mb)) := at_cmp op_lt2 so_lt ha hb (nomark _)
theorem t_le (ha : AE X W a ma) (hb : AE X W b mb) : AT X W (.Compare a [.LtE] [b] pos) (mB (m2 opLe ma mb)) := at_cmp op_le so_le ha hb (nomark _)
theorem t_gt (ha : AE X W a ma) (hb : AE X W b mb) : AT X W (.Compare a [.Gt] [b] pos) (mB (m2 opGt ma mb)) := at_cmp op_gt so_gt ha hb (nomark _)
theorem t_ge (ha : AE X W a ma) (hb : AE X W b mb) : AT X W (.Compare a [.GtE] [b] pos) (mB (m2 opGe ma mb)) := at_cmp op_ge so_ge ha hb (nomark _)
theorem t_is (ha : AE X W a ma) (hb : AE X W b mb) : AT X W (.Compare a [.Is] [b] pos) (mB (m2 opIsN ma mb)) := at_cmp op_isN so_isN ha hb (nomark _)
theorem t_isnt (ha : AE X W a ma) (hb : AE X W b mb) : AT X W (.Compare a [.IsNot] [b] pos) (mB (m2 opNotN ma mb)) := at_cmp op_notN so_notN ha hb (nomark _)
theorem t_in (hr : Room k X.A) (ha : AE X W a ma) (hb : AE X W b mb) (hm : behindInMarks .In b = false := by rfl) : AT X W (.Compare a [.In] [b] pos) (mB (m2 opIn ma mb)) := at_in (hu65 hr) ha hb hm
theorem t_nin (hr : Room k X.A) (ha : AE X W a ma) (hb : AE X W b mb) (hm : behindInMarks .NotIn b = false := by rfl) : AT X W (.Compare a [.NotIn] [b] pos) (mB (m2 opNotIn ma mb)) := at_notIn (hu65 hr) ha hb hm
theorem x_ix (ha : AE X W a ma) (hb : AE X W b mb) (hs : PlainIx b := by exact fun _ _ => rfl) : AE X W (.Subscript a b pos) (m2 opIx ma mb) := ae_ix ix_seq so_ix ha hb hs
end
/-- a def of the text -/
structure Fn1 (K : PySem.W.Frag) (mg : Str → Option Value) (x : Str) (st : Stmt) (ps : List Str) where
  a : Addr
  fd : FuncData
  F : Fun K x x st a fd
  g : mg x = some (.ref a)
  b : L2.Binds K fd ps []
section
variable {X : Cx} {W : WX} {k j : Nat} {x : Str} {st : Stmt} {ps : List Str} {F : Fn} {p pos : Pos} {e : Expr} {es : List Expr} {ms : S → R (List Vl)}
/-- the mirror of a def is right, up to a level -/
abbrev Ok (P : Program) (w : World) (K : PySem.W.Frag) (mg : Str → Option Value) (base : Heap) (k : Nat) {x : Str} {st : Stmt} {ps : List Str} (f : Fn1 K mg x st ps) (F : Fn) : Prop :=
  FnOk P w K mg base (L2.CX P w) k f.a f.fd ps (spA K mg ps.length F)
theorem x_call {f : Fn1 X.K X.mg x st ps} (G : Ok X.prog X.w X.K X.mg X.base j f F) (hr : Room k X.A) (hj : j ≤ k) (tk : Takes X W) (ha : AA X W (e :: es) ms) (hml : ALen ms ps.length) (hg : Gl X x := by rfl) (hl : (e :: es).length = ps.length := by rfl)
    (hdb : (x == ("__debug__" : Str)) = false := by decide) (he : starEach (e :: es) X.env = (false, eval e X.env) :: starEach es X.env := by rfl) (hpl : (backTo pos (starEach es X.env)).any (·.1) = false := by rfl) : AE X W (.Call (.Name x p) (e :: es) [] pos) (mCall (callV F) ms) :=
  ae_call G (hr.mono hj) hg f.g f.F.kp f.b tk ha hl hdb he hpl hml
theorem f_call {f : Fn1 X.K X.mg x st ps} (G : Ok X.prog X.w X.K X.mg X.base j f F) (hr : Room k X.A) (hj : j ≤ k) (tk : Takes X W) (ha : AA X W (e :: es) ms) (hml : ALen ms ps.length) (hg : Gl X x := by rfl) (hl : (e :: es).length = ps.length := by rfl)
    (hdb : (x == ("__debug__" : Str)) = false := by decide) (he : starEach (e :: es) X.env = (false, eval e X.env) :: starEach es X.env := by rfl) (hpl : (backTo pos (starEach es X.env)).any (·.1) = false := by rfl) : AF X W (.Call (.Name x p) (e :: es) [] pos) (mCallF (callO F) ms) :=
  af_call G (hr.mono hj) hg f.g f.F.kp f.b tk ha hl hdb he hpl hml
def badF : Fn := fun _ _ => .bad
theorem ok_bad {P : Program} {w : World} {K : PySem.W.Frag} {mg : Str → Option Value} {base : Heap} {k : Nat} (f : Fn1 K mg x st ps) : Ok P w K mg base k f badF where
  len vs H Q E h := by obtain ⟨A, sto, ws, _, h, _⟩ := h; exact h
  run A outer s H args us vs Q E _ _ _ _ h := by obtain ⟨A, sto, ws, _, _, _, _, h⟩ := h; exact h.elim
theorem x_len (hm : X.mg "len" = none) (ha : AA X W (e :: es) ms) (hg : Gl X "len" := by rfl) (he : starEach (e :: es) X.env = (false, eval e X.env) :: starEach es X.env := by rfl) (hpl : (backTo pos (starEach es X.env)).any (·.1) = false := by rfl) : AE X W (.Call (.Name "len" p) (e :: es) [] pos) (mCall fLen ms) :=
  ae_callB call_len sc_len hg hm PySem.boot_len ha (by decide) (by decide) he hpl
theorem f_list (hm : X.mg "list" = none) (ha : AA X W (e :: es) ms) (hg : Gl X "list" := by rfl) (he : starEach (e :: es) X.env = (false, eval e X.env) :: starEach es X.env := by rfl) (hpl : (backTo pos (starEach es X.env)).any (·.1) = false := by rfl) : AF X W (.Call (.Name "list" p) (e :: es) [] pos) (mCallF fList ms) :=
  af_callTy call_list_of sc_list hg hm (by decide +kernel) ha (by decide) (by decide) he hpl
theorem x_tuple (hm : X.mg "tuple" = none) (ha : AA X W (e :: es) ms) (hg : Gl X "tuple" := by rfl) (he : starEach (e :: es) X.env = (false, eval e X.env) :: starEach es X.env := by rfl) (hpl : (backTo pos (starEach es X.env)).any (·.1) = false := by rfl) : AE X W (.Call (.Name "tuple" p) (e :: es) [] pos) (mCall fTuple ms) :=
  ae_callTy call_tuple_of sc_tuple hg hm (by decide +kernel) ha (by decide) (by decide) he hpl
theorem x_int (hm : X.mg "int" = none) (ha : AA X W (e :: es) ms) (hg : Gl X "int" := by rfl) (he : starEach (e :: es) X.env = (false, eval e X.env) :: starEach es X.env := by rfl) (hpl : (backTo pos (starEach es X.env)).any (·.1) = false := by rfl) : AE X W (.Call (.Name "int" p) (e :: es) [] pos) (mCall fInt ms) :=
  ae_callTy call_int1 sc_int hg hm (by decide +kernel) ha (by decide) (by decide) he hpl
theorem x_abs (hm : X.mg "abs" = none) (ha : AA X W (e :: es) ms) (hg : Gl X "abs" := by rfl) (he : starEach (e :: es) X.env = (false, eval e X.env) :: starEach es X.env := by rfl) (hpl : (backTo pos (starEach es X.env)).any (·.1) = false := by rfl) : AE X W (.Call (.Name "abs" p) (e :: es) [] pos) (mCall fAbs ms) :=
  ae_callB call_abs sc_abs hg hm (by decide +kernel) ha (by decide) (by decide) he hpl
theorem x_all (hm : X.mg "all" = none) (ha : AA X W (e :: es) ms) (hc : X.calm = true := by rfl) (hg : Gl X "all" := by rfl) (he : starEach (e :: es) X.env = (false, eval e X.env) :: starEach es X.env := by rfl) (hpl : (backTo pos (starEach es X.env)).any (·.1) = false := by rfl) : AE X W (.Call (.Name "all" p) (e :: es) [] pos) (mCall fAll ms) :=
  ae_callB (cr_all hc) sc_all hg hm (by decide +kernel) ha (by decide) (by decide) he hpl
theorem x_any (hm : X.mg "any" = none) (ha : AA X W (e :: es) ms) (hc : X.calm = true := by rfl) (hg : Gl X "any" := by rfl) (he : starEach (e :: es) X.env = (false, eval e X.env) :: starEach es X.env := by rfl) (hpl : (backTo pos (starEach es X.env)).any (·.1) = false := by rfl) : AE X W (.Call (.Name "any" p) (e :: es) [] pos) (mCall fAny ms) :=
  ae_callB (cr_any hc) sc_any hg hm (by decide +kernel) ha (by decide) (by decide) he hpl
theorem x_sum (hm : X.mg "sum" = none) (ha : AA X W (e :: es) ms) (hc : X.calm = true := by rfl) (hg : Gl X "sum" := by rfl) (he : starEach (e :: es) X.env = (false, eval e X.env) :: starEach es X.env := by rfl) (hpl : (backTo pos (starEach es X.env)).any (·.1) = false := by rfl) : AE X W (.Call (.Name "sum" p) (e :: es) [] pos) (mCall fSum ms) :=
  ae_callB (cr_sum hc) sc_sum hg hm (by decide +kernel) ha (by decide) (by decide) he hpl
theorem x_max (hm : X.mg "max" = none) (ha : AA X W (e :: es) ms) (hc : X.calm = true := by rfl) (hg : Gl X "max" := by rfl) (he : starEach (e :: es) X.env = (false, eval e X.env) :: starEach es X.env := by rfl) (hpl : (backTo pos (starEach es X.env)).any (·.1) = false := by rfl) : AE X W (.Call (.Name "max" p) (e :: es) [] pos) (mCall fMax ms) :=
  ae_callB (cr_max hc) sc_max hg hm (by decide +kernel) ha (by decide) (by decide) he hpl
end
section
variable {X : Cx} {W : WX} {elt tg iter c : Expr} {scope : Scope} {pos p : Pos} {mi : S → R Src} {bind : D → S → Option S} {is : List Nat} {t : S → R Bool} {me : S → R Vl}
theorem f_lc (own : List (Str × Nat)) (hN : X.N.Nodup) (hi : AI X W tg iter mi) (ok : BlkOk X.N X.env.scope scope own)
    (hg : ∀ (s : Shared) (H : Hp) (C : Addr) (cl : List (Str × Addr)) (fp : List Addr), AG (X.blk s H scope (compEnvC scope cl C X.env) fp) tg bind is)
    (he : ∀ (s : Shared) (H : Hp) (C : Addr) (cl : List (Str × Addr)) (fp : List Addr), AE (X.blk s H scope (compEnvC scope cl C X.env) fp) (fun _ _ _ _ => False) elt me)
    (hv : ∀ i ∈ is, i ∈ own.map (·.2)) (hc : X.calm = true := by rfl) (hs : ∀ x, foldedSetIterable iter X.env x = pure x := by intro _; rfl) :
    AF X W (.ListComp elt [⟨tg, iter, [], 0⟩] scope pos) (mComp mi bind (fun st => .ok true st) me (own.map (·.2))) :=
  af_lc hc hN hi ok hg (fun _ _ _ _ _ => ⟨fun pins s σ H Q I ⟨A, st, sr, q⟩ => pts_nil.run pins s σ H Q I (q.here sr)⟩) he hv hs
theorem f_lcIf (own : List (Str × Nat)) (hN : X.N.Nodup) (hi : AI X W tg iter mi) (ok : BlkOk X.N X.env.scope scope own)
    (hg : ∀ (s : Shared) (H : Hp) (C : Addr) (cl : List (Str × Addr)) (fp : List Addr), AG (X.blk s H scope (compEnvC scope cl C X.env) fp) tg bind is)
    (ht : ∀ (s : Shared) (H : Hp) (C : Addr) (cl : List (Str × Addr)) (fp : List Addr), AT (X.blk s H scope (compEnvC scope cl C X.env) fp) (fun _ _ _ _ => False) c t)
    (he : ∀ (s : Shared) (H : Hp) (C : Addr) (cl : List (Str × Addr)) (fp : List Addr), AE (X.blk s H scope (compEnvC scope cl C X.env) fp) (fun _ _ _ _ => False) elt me)
    (hv : ∀ i ∈ is, i ∈ own.map (·.2)) (hc : X.calm = true := by rfl) (hs : ∀ x, foldedSetIterable iter X.env x = pure x := by intro _; rfl) :
    AF X W (.ListComp elt [⟨tg, iter, [c], 0⟩] scope pos) (mComp mi bind t me (own.map (·.2))) :=
  af_lc hc hN hi ok hg (fun s H C cl fp => pts_one (ht s H C cl fp)) he hv hs
end
end RA
set_option Elab.async false
set_option linter.all false
set_option maxRecDepth 100000
set_option maxHeartbeats 4000000
namespace RA
open PySem PySem.Spec PyProof.Rows L2

section
variable {X : Cx} {W : WX} {k : Nat} {e a b c d o i' : Expr} {es : List Expr} {ma mb mc mo mi' : S → R Vl} {pos pos' p : Pos} {st : Stmt} {m1 m2 : S → Out} {x y : Str}
def sFrz (i : Nat) (m : S → Out) : S → Out := fun s => m (s.freeze i)
theorem y_frz (i : Nat) (h : AS X W st m1) : AS X W st (sFrz i m1) := as_frz i h
theorem y_set (i : Nat) (hN : X.N.Nodup) (ha : AE X W e ma) (hi : X.N[i]? = some x := by rfl) (hx : Loc X.env.scope x := by first | exact Or.inl rfl | exact Or.inr rfl) (hs : swapsWith e (some (.Name x pos')) pos.line X.env = pure false := by rfl)
    (hf : X.fn x = true ∨ X.env.scope.names.lookup x = some .local := by first | exact .inl rfl | exact .inr rfl) : AS X W (.Assign [.Name x pos'] e pos) (sSet i ma) := as_set (ps_set hN hi hx ha hs hf)
theorem y_own (i : Nat) {ma : S → R Ob} (hN : X.N.Nodup) (ha : AF X W e ma) (hi : X.N[i]? = some x := by rfl) (hx : Loc X.env.scope x := by first | exact Or.inl rfl | exact Or.inr rfl) (hs : swapsWith e (some (.Name x pos')) pos.line X.env = pure false := by rfl)
    (hf : X.fn x = true ∨ X.env.scope.names.lookup x = some .local := by first | exact .inl rfl | exact .inr rfl) : AS X W (.Assign [.Name x pos'] e pos) (sOwn i ma) := as_own (ps_set hN hi hx ha hs hf)
theorem y_loc (i : Nat) {ma : S → R Ob} (hN : X.N.Nodup) (ha : AF X W e ma) (hi : X.N[i]? = some x := by rfl) (hx : Loc X.env.scope x := by first | exact Or.inl rfl | exact Or.inr rfl) (hs : swapsWith e (some (.Name x pos')) pos.line X.env = pure false := by rfl)
    (hf : X.fn x = true ∨ X.env.scope.names.lookup x = some .local := by first | exact .inl rfl | exact .inr rfl) : AS X W (.Assign [.Name x pos'] e pos) (sLoc i ma) := as_loc (ps_set hN hi hx ha hs hf)
theorem trF_frz {K : PySem.W.Frag} {mg : Str → Option Value} {m : S → R Ob} {σ : L2.St} {H : Hp} {Q : VK} (h : tr K mg W (mFrz m) σ H Q) : trF K mg W m σ H Q := by
  obtain ⟨A, st, sr, p⟩ := h
  exact ⟨A, st, sr, (PostX.bind p).imp fun o s1 H1 e1 sr1 p1 a na sra ro => by
    split at p1
    · rename_i hz
      exact p1.here sr1 _ ((RO.mono kp_pop rfl ro).frz (nlive sr na) hz)
    · exact p1.elim⟩
section
variable {elt tg iter : Expr} {scope : Scope} {mi : S → R Src} {bind : D → S → Option S} {is : List Nat} {t : S → R Bool} {me : S → R Vl} {py : Pos}
/-- name = [..], data; an own list -/
theorem y_setLc (i : Nat) (own : List (Str × Nat)) (hN : X.N.Nodup) (hi : AI X W tg iter mi) (ok : BlkOk X.N X.env.scope scope own)
    (hg : ∀ (s : Shared) (H : Hp) (C : Addr) (cl : List (Str × Addr)) (fp : List Addr), AG (X.blk s H scope (compEnvC scope cl C X.env) fp) tg bind is)
    (he : ∀ (s : Shared) (H : Hp) (C : Addr) (cl : List (Str × Addr)) (fp : List Addr), AE (X.blk s H scope (compEnvC scope cl C X.env) fp) (fun _ _ _ _ => False) elt me)
    (hv : ∀ i ∈ is, i ∈ own.map (·.2)) (hy : X.N[i]? = some y := by rfl) (hyl : X.env.scope.names.lookup y = some .local := by rfl)
    (hsw : swapsWith (.ListComp elt [⟨tg, iter, [], 0⟩] scope pos) (some (.Name y py)) pos'.line X.env = pure true := by exact sw_true rfl rfl rfl (by decide +kernel)) (hc : X.calm = true := by rfl) (hs : ∀ x, foldedSetIterable iter X.env x = pure x := by intro _; rfl) :
    AS X W (.Assign [.Name y py] (.ListComp elt [⟨tg, iter, [], 0⟩] scope pos) pos') (sSet i (mFrz (mComp mi bind (fun st => .ok true st) me (own.map (·.2))))) :=
  PS.imp (ps_setLc hc hN hy hyl hsw hi ok hg (fun _ _ _ _ _ => ⟨fun pins s σ H Q I ⟨A, st, sr, q⟩ => pts_nil.run pins s σ H Q I (q.here sr)⟩) he hs) fun D σ H h => tr_lc hv (trF_frz (tr_set h))
theorem y_ownLc (i : Nat) (own : List (Str × Nat)) (hN : X.N.Nodup) (hi : AI X W tg iter mi) (ok : BlkOk X.N X.env.scope scope own)
    (hg : ∀ (s : Shared) (H : Hp) (C : Addr) (cl : List (Str × Addr)) (fp : List Addr), AG (X.blk s H scope (compEnvC scope cl C X.env) fp) tg bind is)
    (he : ∀ (s : Shared) (H : Hp) (C : Addr) (cl : List (Str × Addr)) (fp : List Addr), AE (X.blk s H scope (compEnvC scope cl C X.env) fp) (fun _ _ _ _ => False) elt me)
    (hv : ∀ i ∈ is, i ∈ own.map (·.2)) (hy : X.N[i]? = some y := by rfl) (hyl : X.env.scope.names.lookup y = some .local := by rfl)
    (hsw : swapsWith (.ListComp elt [⟨tg, iter, [], 0⟩] scope pos) (some (.Name y py)) pos'.line X.env = pure true := by exact sw_true rfl rfl rfl (by decide +kernel)) (hc : X.calm = true := by rfl) (hs : ∀ x, foldedSetIterable iter X.env x = pure x := by intro _; rfl) :
    AS X W (.Assign [.Name y py] (.ListComp elt [⟨tg, iter, [], 0⟩] scope pos) pos') (sOwn i (mComp mi bind (fun st => .ok true st) me (own.map (·.2)))) :=
  PS.imp (ps_setLc hc hN hy hyl hsw hi ok hg (fun _ _ _ _ _ => ⟨fun pins s σ H Q I ⟨A, st, sr, q⟩ => pts_nil.run pins s σ H Q I (q.here sr)⟩) he hs) fun D σ H h => tr_lc hv (tr_own h)
theorem y_setLcIf (i : Nat) (own : List (Str × Nat)) (hN : X.N.Nodup) (hi : AI X W tg iter mi) (ok : BlkOk X.N X.env.scope scope own)
    (hg : ∀ (s : Shared) (H : Hp) (C : Addr) (cl : List (Str × Addr)) (fp : List Addr), AG (X.blk s H scope (compEnvC scope cl C X.env) fp) tg bind is)
    (ht : ∀ (s : Shared) (H : Hp) (C : Addr) (cl : List (Str × Addr)) (fp : List Addr), AT (X.blk s H scope (compEnvC scope cl C X.env) fp) (fun _ _ _ _ => False) c t)
    (he : ∀ (s : Shared) (H : Hp) (C : Addr) (cl : List (Str × Addr)) (fp : List Addr), AE (X.blk s H scope (compEnvC scope cl C X.env) fp) (fun _ _ _ _ => False) elt me)
    (hv : ∀ i ∈ is, i ∈ own.map (·.2)) (hy : X.N[i]? = some y := by rfl) (hyl : X.env.scope.names.lookup y = some .local := by rfl)
    (hsw : swapsWith (.ListComp elt [⟨tg, iter, [c], 0⟩] scope pos) (some (.Name y py)) pos'.line X.env = pure true := by exact sw_true rfl rfl rfl (by decide +kernel)) (hc : X.calm = true := by rfl) (hs : ∀ x, foldedSetIterable iter X.env x = pure x := by intro _; rfl) :
    AS X W (.Assign [.Name y py] (.ListComp elt [⟨tg, iter, [c], 0⟩] scope pos) pos') (sSet i (mFrz (mComp mi bind t me (own.map (·.2))))) :=
  PS.imp (ps_setLc hc hN hy hyl hsw hi ok hg (fun s H C cl fp => pts_one (ht s H C cl fp)) he hs) fun D σ H h => tr_lc hv (trF_frz (tr_set h))
theorem y_ownLcIf (i : Nat) (own : List (Str × Nat)) (hN : X.N.Nodup) (hi : AI X W tg iter mi) (ok : BlkOk X.N X.env.scope scope own)
    (hg : ∀ (s : Shared) (H : Hp) (C : Addr) (cl : List (Str × Addr)) (fp : List Addr), AG (X.blk s H scope (compEnvC scope cl C X.env) fp) tg bind is)
    (ht : ∀ (s : Shared) (H : Hp) (C : Addr) (cl : List (Str × Addr)) (fp : List Addr), AT (X.blk s H scope (compEnvC scope cl C X.env) fp) (fun _ _ _ _ => False) c t)
    (he : ∀ (s : Shared) (H : Hp) (C : Addr) (cl : List (Str × Addr)) (fp : List Addr), AE (X.blk s H scope (compEnvC scope cl C X.env) fp) (fun _ _ _ _ => False) elt me)
    (hv : ∀ i ∈ is, i ∈ own.map (·.2)) (hy : X.N[i]? = some y := by rfl) (hyl : X.env.scope.names.lookup y = some .local := by rfl)
    (hsw : swapsWith (.ListComp elt [⟨tg, iter, [c], 0⟩] scope pos) (some (.Name y py)) pos'.line X.env = pure true := by exact sw_true rfl rfl rfl (by decide +kernel)) (hc : X.calm = true := by rfl) (hs : ∀ x, foldedSetIterable iter X.env x = pure x := by intro _; rfl) :
    AS X W (.Assign [.Name y py] (.ListComp elt [⟨tg, iter, [c], 0⟩] scope pos) pos') (sOwn i (mComp mi bind t me (own.map (·.2)))) :=
  PS.imp (ps_setLc hc hN hy hyl hsw hi ok hg (fun s H C cl fp => pts_one (ht s H C cl fp)) he hs) fun D σ H h => tr_lc hv (tr_own h)
end
/-! x op= e -/
def sAug (i : Nat) (f : Vl → Vl → S → R Vl) (ma : S → R Vl) : S → Out := fun st => match st.env[i]? with
  | some (.d x) => (ma st).out fun w s1 => (f (.d x) w s1).out fun z s2 => match setW i z s2 with
    | some s3 => .nx s3
    | none => .bad
  | _ => .bad
theorem y_aug (i : Nat) {op : Operator} {r : R2} {f : Vl → Vl → S → R Vl} (hN : X.N.Nodup) (ho : OpR X (inplaceOp op) r) (so : SOp X.K X.mg W r f) (ha : AE X W e ma) (hi : X.N[i]? = some x := by rfl) (hx : Loc X.env.scope x := by first | exact Or.inl rfl | exact Or.inr rfl)
    (hf : X.fn x = true ∨ X.env.scope.names.lookup x = some .local := by first | exact .inl rfl | exact .inr rfl) : AS X W (.AugAssign (.Name x pos') op e pos) (sAug i f ma) :=
  PS.imp (ps_aug (ti := r) hN hi hx ha ho hf) fun D σ H ⟨A, s, sr, q⟩ => by
    unfold sAug at q
    split at q
    · rename_i z ez
      obtain ⟨v, h1, h2⟩ := sr.sl i _ ez
      refine ⟨v, h1, A, s, sr, (PostS.of q).imp fun w s1 H1 e1 sr1 p1 u ru => ?_⟩
      have p2 := PostS.of (σ := σ) p1
      exact so A H1 σ s1 v u (.d z) w _ sr1 (RV.mono e1.kp h2) ru (p2.imp fun z2 s2 H2 e2 sr2 p3 v' rv' => by
        split at p3
        · rename_i s3 e3
          exact p3 A H2 _ (Ext.refl A H2) (setW_ok sr2 rv' e3)
        · exact p3.elim)
    · exact q.elim
theorem y_augAdd (i : Nat) (hN : X.N.Nodup) (ha : AE X W e ma) (hi : X.N[i]? = some x := by rfl) (hx : Loc X.env.scope x := by first | exact Or.inl rfl | exact Or.inr rfl)
    (hf : X.fn x = true ∨ X.env.scope.names.lookup x = some .local := by first | exact .inl rfl | exact .inr rfl) : AS X W (.AugAssign (.Name x pos') .Add e pos) (sAug i (opI fun i j => .int (i + j)) ma) :=
  y_aug i hN iop_add (sop_I0 fun _ _ _ _ => .int _) ha hi hx hf
/-! xs[i] = e, xs[i] += e of a list that may be written -/
def opStore (x j w : Vl) (st : S) : R Unit := match j, w with
  | .d (.int i), .d z => (match lsOf x st with
    | some ds => (match ixN ds.length i with
      | some n => .ok () (st.put x (.lst (ds.set n z)))
      | none => .bad)
    | none => .bad)
  | _, _ => .bad
theorem RVs.set {K : PySem.W.Frag} {A : Wd} {H : Hp} {vs : List V} {ds : List D} (r : RVs K A H vs ds) {v : V} {z : D} (rz : RV K A H v z) : ∀ n : Nat, RVs K A H (vs.set n v) (ds.set n z) := by
  induction vs generalizing ds with
  | nil => cases r; intro n; exact .nil
  | cons u vs ih =>
    cases r with
    | cons a b =>
      intro n
      cases n with
      | zero => exact .cons rz b
      | succ n => exact .cons a (ih b n)
theorem so_store {K : PySem.W.Frag} {mg : Str → Option Value} {A : Wd} {H : Hp} {σ : L2.St} {st : S} {v u w : V} {x j z : Vl} {Q : Hp → Prop} (sr : SR K A H σ st) (r1 : RW K A H v x) (r2 : RW K A H u j) (r3 : RW K A H w z)
    (p : PostX K mg W A H σ (opStore x j z st) (fun _ _ H' => Q H')) : rSetL v u w H Q := by
  unfold opStore at p
  split at p
  · rename_i i z
    cases r2
    split at p
    · rename_i ds e
      split at p
      · rename_i n en
        obtain ⟨a, rfl, ⟨us, h1, h2⟩, hl, nt⟩ := obOf_at sr r1 (lsOf_ob e)
        have hz : hsz (.lst (us.set n w)) ≤ sizeLine := by
          show (us.set n w).length ≤ _
          rw [List.length_set]
          exact sr.hb _ _ h1
        exact ⟨a, us, i, n, rfl, rfl, h1, by rw [h2.length]; exact en, p _ (stp_updL hl nt) (sr.put r1 (lsOf_ob e) hz ⟨_, upd_same, (h2.set r3 n).mono (kp_updL hl)⟩)⟩
      · exact p.elim
    · exact p.elim
  · exact p.elim
def sStore (mv mo mi : S → R Vl) : S → Out := fun st => (mv st).out fun w s1 => (mo s1).out fun x s2 => (mi s2).out fun j s3 => (opStore x j w s3).out fun _ s4 => .nx s4
theorem y_store (hv : AE X W e ma) (ho : AE X W o mo) (hi : AE X W i' mi') (ha : ∀ v, assign (.Subscript o i' p) X.env v = (do
      let ov ← holding [v] (eval o X.env)
      let iv ← holding [v, ov] (eval i' X.env)
      standAt p
      holding [v, ov, iv] (setItem ov iv v)
      release [v, ov, iv] []) := by intro _; rfl) (hs : swapsWithSole [.Subscript o i' p] e pos.line X.env = pure false := by rfl) (hw : swappedStores [.Subscript o i' p] e X.env = pure none := by rfl)
    (h1 : (assignEach [.Subscript o i' p] X.env).map (·.2) = [assign (.Subscript o i' p) X.env] := by rfl) : AS X W (.Assign [.Subscript o i' p] e pos) (sStore ma mo mi') :=
  PS.imp (ps_asg hv (pg_sub ho hi set_list ha) hs hw h1) fun D σ H ⟨A, s, sr, q⟩ => ⟨A, s, sr, (PostS.of q).imp fun w s1 H1 e1 sr1 p1 v rv => ⟨A, s1, sr1, (PostS.of p1).imp fun x s2 H2 e2 sr2 p2 v2 rv2 => ⟨A, s2, sr2, (PostS.of p2).imp fun j s3 H3 e3 sr3 p3 v3 rv3 => by
    have p4 := PostS.of (σ := σ) p3
    exact so_store sr3 (rv2.step e3) rv3 ((rv.step e2).step e3) (p4.imp fun _ s4 H4 e4 sr4 p5 => p5 A H4 σ (Ext.refl A H4) sr4)⟩⟩⟩
/-- o[i], by values -/
theorem pget_list : PGet X (rIxL X.K) := by
  intro pins s σ H ov iv o' i2 Q I rx ry h
  obtain ⟨p, xs, i, z, rfl, rfl, hq, he, q⟩ := h
  cases rx
  obtain ⟨t, rfl⟩ := ry
  obtain ⟨its, r, pl, hz⟩ := I.list hq
  obtain ⟨j, h1, h2, h3, h4, h5⟩ := atI_get he
  obtain ⟨w, ew, rw'⟩ := r.get h2
  have hl := r.length
  have hn := line63
  have fin : EP X pins σ Q w s := ⟨z, H, I, rw', q⟩
  by_cases h0 : 0 ≤ i
  · have hj : i.toNat = j := by
      rw [seqIndex_of h0 h5] at h1
      exact Option.some.inj h1
    exact wpAny_getItem_list pl.isList h0 (by omega) (by rw [hj]; simpa using ew) fin
  · have hj : (i + (its.toArray.size : Int)).toNat = j := by
      rw [seqIndex_neg (by omega) h4] at h1
      rw [List.size_toArray, ← hl]
      exact Option.some.inj h1
    exact wpAny_getItem_list_neg pl.isList (by omega) (by rw [List.size_toArray] <;> omega) (by omega) (by rw [hj]; simpa using ew) fin
def sAugS (f : Vl → Vl → S → R Vl) (mo mi mv : S → R Vl) : S → Out := fun st => (mo st).out fun x s1 => (mi s1).out fun j s2 => match j with
  | .d (.int i) => (match (lsOf x s2).bind fun ds => atI ds i with
    | some z => (mv s2).out fun w s3 => (f (.d z) w s3).out fun q s4 => (opStore x (.d (.int i)) q s4).out fun _ s5 => .nx s5
    | none => .bad)
  | _ => .bad
theorem y_augS {op : Operator} {r : R2} {f : Vl → Vl → S → R Vl} (hop : OpR X (inplaceOp op) r) (so : SOp X.K X.mg W r f) (ho : AE X W o mo) (hi : AE X W i' mi') (hv : AE X W e ma)
    (ha : ∀ ov iv new, augStore i' ov iv new = (do holding [new, ov, iv] (setItem ov iv new); release [new, ov, iv] []; pure .next) := by intros; rfl) : AS X W (.AugAssign (.Subscript o i' p) op e pos) (sAugS f mo mi' ma) :=
  PS.imp (ps_augS (tip := r) ho hi pget_list hv hop set_list ha) fun D σ H ⟨A, s, sr, q⟩ => ⟨A, s, sr, (PostS.of q).imp fun x s1 H1 e1 sr1 p1 v rv => ⟨A, s1, sr1, (PostS.of p1).imp fun j s2 H2 e2 sr2 p2 u ru => by
    split at p2
    · rename_i i
      split at p2
      · rename_i z ez
        cases hls : lsOf x s2 with
        | none => rw [hls] at ez; cases ez
        | some ds =>
          rw [hls] at ez
          have ez' : atI ds i = some z := ez
          have rv2 := rv.step e2
          obtain ⟨a, us, rfl, h1, h2⟩ := lstOf_at sr2 rv2 (lsOf_lst hls)
          obtain ⟨v3, h3, r3⟩ := atI_rv h2 ez'
          cases (ru : RV X.K A H2 u _)
          refine ⟨a, us, i, v3, rfl, rfl, .inl (.inl h1), h3, A, s2, sr2, (PostS.of p2).imp fun w s3 H3 e3 sr3 p3 v4 rv4 => ?_⟩
          have p4 := PostS.of (σ := σ) p3
          refine so A H3 σ s3 v3 v4 (.d z) w _ sr3 (RV.mono e3.kp r3) rv4 (p4.imp fun q s4 H4 e4 sr4 p5 v5 rv5 => ?_)
          have p6 := PostS.of (σ := σ) p5
          exact so_store (j := .d (.int i)) sr4 ((rv2.step e3).step e4) (RV.int i) rv5 (p6.imp fun _ s5 H5 e5 sr5 p7 => p7 A H5 σ (Ext.refl A H5) sr5)
      · exact p2.elim
    · exact p2.elim⟩⟩
theorem y_augSAdd (ho : AE X W o mo) (hi : AE X W i' mi') (hv : AE X W e ma)
    (ha : ∀ ov iv new, augStore i' ov iv new = (do holding [new, ov, iv] (setItem ov iv new); release [new, ov, iv] []; pure .next) := by intros; rfl) : AS X W (.AugAssign (.Subscript o i' p) .Add e pos) (sAugS (opI fun i j => .int (i + j)) mo mi' ma) :=
  y_augS iop_add (sop_I0 fun _ _ _ _ => .int _) ho hi hv ha
/-! a, b = x, y -/
section
variable {px py pt : Pos} {kt k2 : Nat} {pt2 : Pos}
def sPar (i j : Nat) (ma mb : S → R Vl) : S → Out := fun st => (ma st).out fun x s1 => (mb s1).out fun y s2 => match (setW i x s2).bind (setW j y) with
  | some s3 => .nx s3
  | none => .bad
theorem setW_set {i : Nat} {w : Vl} {st s1 : S} (h : setW i w st = some s1) : ∃ s, s1 = st.set i s := by
  unfold setW at h
  cases hs : slOf w with
  | none => rw [hs] at h; cases h
  | some s => rw [hs] at h; cases h; exact ⟨s, rfl⟩
theorem y_par (i j : Nat) (hN : X.N.Nodup) (ha : AE X W a ma) (hb : AE X W b mb) (hij : i ≠ j := by decide) (hc : X.calm = true := by rfl) (hi : X.N[i]? = some x := by rfl) (hj : X.N[j]? = some y := by rfl)
    (hx : X.env.scope.names.lookup x = some .local := by rfl) (hy : X.env.scope.names.lookup y = some .local := by rfl) (h1 : starEach [a, b] X.env = (false, eval a X.env) :: starEach [b] X.env := by rfl) (h2 : starEach [b] X.env = (false, eval b X.env) :: starEach [] X.env := by rfl)
    (hw : swappedStores [.Tuple [.Name x px, .Name y py] kt pt] (.Tuple [a, b] k2 pt2) X.env = pure (some [x, y]) := by rfl)
    (hs : swapsWithSole [.Tuple [.Name x px, .Name y py] kt pt] (.Tuple [a, b] k2 pt2) pos.line X.env = pure false := by rfl) : AS X W (.Assign [.Tuple [.Name x px, .Name y py] kt pt] (.Tuple [a, b] k2 pt2) pos) (sPar i j ma mb) :=
  PS.imp (ps_par hc hN hi hj hij hx hy (pa_cons ha (pa_cons hb pa_nil h2) h1) hw hs) fun D σ H ⟨A, s, sr, q⟩ => ⟨A, s, sr, (PostS.of q).imp fun x s1 H1 e1 sr1 p1 v rv => ⟨A, s1, sr1, (PostS.of p1).imp fun y s2 H2 e2 sr2 p2 u ru => by
    refine ⟨v, u, rfl, ?_⟩
    split at p2
    · rename_i s3 e3
      obtain ⟨s4, h4, h5⟩ := Option.bind_eq_some_iff.mp e3
      have sr4 := setW_ok sr2 (rv.step e2) h4
      exact p2 A H2 _ (Ext.refl A H2) (setW_ok sr4 ru h5)
    · exact p2.elim⟩⟩
def sParVF (i j : Nat) (ma : S → R Vl) (mb : S → R Ob) : S → Out := fun st => (ma st).out fun x s1 => (mb s1).out fun y s2 => match setW i x (s2.set j (.own y)) with
  | some s3 => .nx s3
  | none => .bad
theorem set_comm' {σ : L2.St} {i j : Nat} {u v : Option V} (h : i ≠ j) : (σ.set j u).set i v = (σ.set i v).set j u := List.set_comm _ _ (fun z => h z.symm)
theorem RW.mono' {K : PySem.W.Frag} {A A' : Wd} {H H' : Hp} (e : Kp A H A' H') (hL : ∃ l, A'.L = A.L ++ l) {v : V} : ∀ {w : Vl}, (∀ i, w ≠ .own i) → RW K A H v w → RW K A' H' v w
  | .d _, _, h => RV.mono e h
  | .loc n, _, ⟨a, h1, h2⟩ => by
    obtain ⟨l, el⟩ := hL
    exact ⟨a, h1, by rw [el, List.getElem?_append_left (List.getElem?_eq_some_iff.mp h2).1]; exact h2⟩
  | .own i, n, _ => absurd rfl (n i)
  | .frz _, _, h => RF.mono e h
  | .kt _, _, ⟨a, vs, h1, h2, h3⟩ => ⟨a, vs, h1, h2, h3.mono e⟩
theorem setW_notOwn {i : Nat} {w : Vl} {st s1 : S} (h : setW i w st = some s1) : ∀ n, w ≠ .own n := fun n e => by rw [e] at h; cases h
theorem y_parVF (i j : Nat) {mb : S → R Ob} (hN : X.N.Nodup) (ha : AE X W a ma) (hb : AF X W b mb) (hij : i ≠ j := by decide) (hc : X.calm = true := by rfl) (hi : X.N[i]? = some x := by rfl) (hj : X.N[j]? = some y := by rfl)
    (hx : X.env.scope.names.lookup x = some .local := by rfl) (hy : X.env.scope.names.lookup y = some .local := by rfl) (h1 : starEach [a, b] X.env = (false, eval a X.env) :: starEach [b] X.env := by rfl) (h2 : starEach [b] X.env = (false, eval b X.env) :: starEach [] X.env := by rfl)
    (hw : swappedStores [.Tuple [.Name x px, .Name y py] kt pt] (.Tuple [a, b] k2 pt2) X.env = pure (some [x, y]) := by rfl)
    (hs : swapsWithSole [.Tuple [.Name x px, .Name y py] kt pt] (.Tuple [a, b] k2 pt2) pos.line X.env = pure false := by rfl) : AS X W (.Assign [.Tuple [.Name x px, .Name y py] kt pt] (.Tuple [a, b] k2 pt2) pos) (sParVF i j ma mb) :=
  PS.imp (ps_par hc hN hi hj hij hx hy (pa_cons ha (pa_cons hb pa_nil h2) h1) hw hs) fun D σ H ⟨A, s, sr, q⟩ => ⟨A, s, sr, (PostS.of q).imp fun x s1 H1 e1 sr1 p1 v rv => ⟨A, s1, sr1, (PostS.keep (σ := σ) p1).imp fun y s2 H2 e2 sr2 p2 a2 na sra ro => by
    refine ⟨v, .ref a2, rfl, ?_⟩
    obtain ⟨_, p3⟩ := p2
    split at p3
    · rename_i s3 e3
      have srj := sra.setO (i := j) ro (nlive sr1 na)
      have rv2 : RW X.K (A.own j a2) H2 v x := RW.mono' ⟨e2.keep, fun b l => (live_push.mp (live_own l)).elim (fun z => .inr (z ▸ na)) .inl⟩ ⟨[], by simp [Wd.own]⟩ (setW_notOwn e3) rv
      have sri := setW_ok srj rv2 e3
      rw [set_comm' hij] at sri
      exact p3 (A.own j a2) H2 _ (ext_own e2 na) sri
    · exact p3.elim⟩⟩
def sParFV (i j : Nat) (ma : S → R Ob) (mb : S → R Vl) : S → Out := fun st => (ma st).out fun x s1 => (mb s1).out fun y s2 => match setW j y (s2.set i (.own x)) with
  | some s3 => .nx s3
  | none => .bad
/-- the object that was made first stands by -/
theorem PostS.push {K : PySem.W.Frag} {mg : Str → Option Value} {A : Wd} {H H1 : Hp} {σ : L2.St} {α : Type} {r : R α} {f : α → S → Out} {D : Ends} {a : Addr} (e : Stp A H H1) (na : H a = none) (h : PostS K mg W A H (r.out f) D) :
    PostX K mg W (A.push a) H1 σ r (fun x st1 H2 => Stp (A.push a) H1 H2 ∧ PostS K mg W A H (f x st1) D) := by
  cases r with
  | ok x st => exact fun H' e' sr => ⟨e', h⟩
  | exc x st =>
    intro cls d H' e' sr re
    have e2 : Ext A H A H' := ⟨⟨fun b u n hb => e'.keep b u (fun l => (live_push.mp l).elim (fun z => by rw [z] at hb; exact nomatch (na.symm.trans hb)) n) (e.keep b u n hb), fun b l => .inl l⟩, rfl,
      fun b hb => (e'.keepT b (List.mem_cons_of_mem _ hb)).trans (e.keepT b hb), ⟨[], by simp⟩, fun b hb => e'.dom b (e.dom b hb)⟩
    exact h A H' σ cls d e2 sr.pop (re.of_live fun b l => live_push.mpr (.inr l))
  | bad => exact h
theorem y_parFV (i j : Nat) {ma : S → R Ob} (hN : X.N.Nodup) (ha : AF X W a ma) (hb : AE X W b mb) (hij : i ≠ j := by decide) (hc : X.calm = true := by rfl) (hi : X.N[i]? = some x := by rfl) (hj : X.N[j]? = some y := by rfl)
    (hx : X.env.scope.names.lookup x = some .local := by rfl) (hy : X.env.scope.names.lookup y = some .local := by rfl) (h1 : starEach [a, b] X.env = (false, eval a X.env) :: starEach [b] X.env := by rfl) (h2 : starEach [b] X.env = (false, eval b X.env) :: starEach [] X.env := by rfl)
    (hw : swappedStores [.Tuple [.Name x px, .Name y py] kt pt] (.Tuple [a, b] k2 pt2) X.env = pure (some [x, y]) := by rfl)
    (hs : swapsWithSole [.Tuple [.Name x px, .Name y py] kt pt] (.Tuple [a, b] k2 pt2) pos.line X.env = pure false := by rfl) : AS X W (.Assign [.Tuple [.Name x px, .Name y py] kt pt] (.Tuple [a, b] k2 pt2) pos) (sParFV i j ma mb) :=
  PS.imp (ps_par hc hN hi hj hij hx hy (pa_cons ha (pa_cons hb pa_nil h2) h1) hw hs) fun D σ H ⟨A, s, sr, q⟩ => ⟨A, s, sr, (PostS.keep (σ := σ) q).imp fun x s1 H1 e1 sr1 p1 a1 na sra ro => ⟨A.push a1, s1, sra, (PostS.push (σ := σ) e1 na p1.2).imp fun y s2 H2 e2 sr2 p2 u ru => by
    refine ⟨.ref a1, u, rfl, ?_⟩
    obtain ⟨_, p3⟩ := p2
    have hT : a1 ∈ (A.push a1).T := List.mem_cons_self
    have ro2 : RO X.K (A.push a1) H2 a1 x := ro.mono e2.kp (e2.keepT a1 hT)
    split at p3
    · rename_i s3 e3
      have nl := nlive sr na
      have sri := sr2.setO (i := i) ro2 nl
      have ru2 : RW X.K (A.own i a1) H2 u y := RW.mono' (Kp.of_live fun _ => live_own) ⟨[], by simp [Wd.own, Wd.push]⟩ (setW_notOwn e3) ru
      have srj := setW_ok sri ru2 e3
      have st2 : Stp A H H2 := ⟨fun b w n hb => e2.keep b w (fun l => (live_push.mp l).elim (fun z => by rw [z] at hb; exact nomatch (na.symm.trans hb)) n) (e1.keep b w n hb),
        fun b hb => (e2.keepT b (List.mem_cons_of_mem _ hb)).trans (e1.keepT b hb), fun b hb => e2.dom b (e1.dom b hb)⟩
      exact p3 (A.own i a1) H2 _ (ext_own st2 na) srj
    · exact p3.elim⟩⟩
def sParFF (i j : Nat) (ma mb : S → R Ob) : S → Out := fun st => (ma st).out fun x s1 => (mb s1).out fun y s2 => .nx ((s2.set j (.own y)).set i (.own x))
theorem y_parFF (i j : Nat) {ma mb : S → R Ob} (hN : X.N.Nodup) (ha : AF X W a ma) (hb : AF X W b mb) (hij : i ≠ j := by decide) (hc : X.calm = true := by rfl) (hi : X.N[i]? = some x := by rfl) (hj : X.N[j]? = some y := by rfl)
    (hx : X.env.scope.names.lookup x = some .local := by rfl) (hy : X.env.scope.names.lookup y = some .local := by rfl) (h1 : starEach [a, b] X.env = (false, eval a X.env) :: starEach [b] X.env := by rfl) (h2 : starEach [b] X.env = (false, eval b X.env) :: starEach [] X.env := by rfl)
    (hw : swappedStores [.Tuple [.Name x px, .Name y py] kt pt] (.Tuple [a, b] k2 pt2) X.env = pure (some [x, y]) := by rfl)
    (hs : swapsWithSole [.Tuple [.Name x px, .Name y py] kt pt] (.Tuple [a, b] k2 pt2) pos.line X.env = pure false := by rfl) : AS X W (.Assign [.Tuple [.Name x px, .Name y py] kt pt] (.Tuple [a, b] k2 pt2) pos) (sParFF i j ma mb) :=
  PS.imp (ps_par hc hN hi hj hij hx hy (pa_cons ha (pa_cons hb pa_nil h2) h1) hw hs) fun D σ H ⟨A, s, sr, q⟩ => ⟨A, s, sr, (PostS.keep (σ := σ) q).imp fun x s1 H1 e1 sr1 p1 a1 na sra ro => ⟨A.push a1, s1, sra, (PostS.push (σ := σ) e1 na p1.2).imp fun y s2 H2 e2 sr2 p2 a2 na2 sra2 ro2 => by
    refine ⟨.ref a1, .ref a2, rfl, ?_⟩
    obtain ⟨_, p3⟩ := p2
    have hT : a1 ∈ (A.push a1).T := List.mem_cons_self
    have hne : H1 a1 ≠ none := sra.dj.dm a1 (live_push.mpr (.inl rfl))
    have h12 : a1 ≠ a2 := fun z => hne (z ▸ na2)
    have ro1 : RO X.K ((A.push a1).push a2) H2 a1 x := ro.mono ⟨e2.keep, fun b l => (live_push.mp l).elim (fun z => .inr (z ▸ na2)) .inl⟩ (e2.keepT a1 hT)
    have nl2 : ¬ (A.push a1).live a2 := nlive sra na2
    have nl1 : ¬ A.live a1 := nlive sr na
    have srj : SR X.K ((A.own j a2).push a1) H2 _ _ := sra2.setO (i := j) ro2 nl2
    have ro1' : RO X.K ((A.own j a2).push a1) H2 a1 x := ro1.of_live fun b l => live_own (A := A.push a1) l
    have nl1' : ¬ (A.own j a2).live a1 := fun l => (live_push.mp (live_own l)).elim h12 nl1
    have sri := srj.setO (i := i) ro1' nl1'
    rw [set_comm' hij] at sri
    have st2 : Stp A H H2 := ⟨fun b w n hb => e2.keep b w (fun l => (live_push.mp l).elim (fun z => by rw [z] at hb; exact nomatch (na.symm.trans hb)) n) (e1.keep b w n hb),
        fun b hb => (e2.keepT b (List.mem_cons_of_mem _ hb)).trans (e1.keepT b hb), fun b hb => e2.dom b (e1.dom b hb)⟩
    have na2' : H a2 = none := e1.back na2
    have ex : Ext A H ((A.own j a2).own i a1) H2 := by
      have h1 := ext_own (i := j) st2 na2'
      refine ⟨⟨st2.keep, fun b l => ?_⟩, rfl, st2.keepT, ⟨[], by simp [Wd.own]⟩, st2.dom⟩
      rcases live_push.mp (live_own l) with z | l
      · exact .inr (z ▸ na)
      · exact h1.kp.fresh b l
    exact p3 _ H2 _ ex sri⟩⟩
end
/-- a, b = a tuple -/
noncomputable def sUnp (bind : D → S → Option S) (ma : S → R Vl) : S → Out := fun st => (ma st).out fun w s1 => match w with
  | .d z => (match bind z s1 with
    | some s2 => .nx s2
    | none => .bad)
  | _ => .bad
theorem y_unp {tg : Expr} {bind : D → S → Option S} {is : List Nat} (ha : AE X W e ma) (hg : AG X tg bind is) (hs : swapsWithSole [tg] e pos.line X.env = pure false := by rfl) (hw : swappedStores [tg] e X.env = pure none := by rfl)
    (h1 : (assignEach [tg] X.env).map (·.2) = [assign tg X.env] := by rfl) : AS X W (.Assign [tg] e pos) (sUnp bind ma) :=
  PS.imp (ps_asg ha hg hs hw h1) fun D σ H ⟨A, s, sr, q⟩ => ⟨A, s, sr, (PostS.of q).imp fun w s1 H1 e1 sr1 p1 v rv => by
    split at p1
    · rename_i z
      refine ⟨A, s1, z, sr1, rv, ?_⟩
      split at p1
      · rename_i s2 hb
        first
        | exact fun σ' sr' _ => p1 A H1 σ' (Ext.refl A H1) sr'
        | (rw [hb]; exact fun σ' sr' _ => p1 A H1 σ' (Ext.refl A H1) sr')
      · exact p1.elim
    · exact p1.elim⟩
theorem y_gn (i : Nat) (hN : X.N.Nodup) (hi : X.N[i]? = some x := by rfl) (hx : Loc X.env.scope x := by first | exact Or.inl rfl | exact Or.inr rfl) (hf : X.fn x = true ∨ X.env.scope.names.lookup x = some .local := by first | exact .inl rfl | exact .inr rfl) : AG X (.Name x pos) (bName i) [i] :=
  ag_name (pg_name hN hi hx hf)
theorem y_gt {es : List Expr} {kk n : Nat} {bs : List D → S → Option S} {is : List Nat} (h : AGs X es bs is) (hn : (assignEach es X.env).length = n := by rfl) (hst : (assignEach es X.env).findIdx? (·.1) = none := by rfl) (hc : X.calm = true := by rfl) : AG X (.Tuple es kk pos) (bTup n bs) is := ag_tup hc h hn hst
/-- x.m(..) of a list -/
theorem x_append {apos cpos : Pos} {ms : S → R (List Vl)} (ho : AE X W o mo) (ha : AA X W (e :: es) ms) (hbase : attributeBase o "append" X.env (eval o X.env) = eval o X.env := by rfl)
    (hfew : ((backTo cpos (starEach (e :: es) X.env)).all (fun x => !x.1) && (backToKw cpos (keywordEach [] X.env)).all (fun x => x.1.isSome)
      && decide ((e :: es).length + ([] : List Keyword).length + (if ([] : List Keyword).isEmpty then 0 else 1) < 30)) = true := by rfl)
    (hline : (apos.endLine == cpos.line) = true := by rfl) (hs : starEach (e :: es) X.env = (false, eval e X.env) :: starEach es X.env := by rfl) (hplain : (backTo cpos (starEach es X.env)).any (·.1) = false := by rfl) :
    AE X W (.Call (.Attribute o "append" apos) (e :: es) [] cpos) (mMt isLs fAppend mo ms) :=
  ae_mt sm_append (pe_bm PySem.F.plainAttrs_list PySem.F.slot_list_append PySem.F.type_list_append mt_append ho ha hbase hfew hline hs hplain)
theorem x_extend {apos cpos : Pos} {ms : S → R (List Vl)} (ho : AE X W o mo) (ha : AA X W (e :: es) ms) (hbase : attributeBase o "extend" X.env (eval o X.env) = eval o X.env := by rfl)
    (hfew : ((backTo cpos (starEach (e :: es) X.env)).all (fun x => !x.1) && (backToKw cpos (keywordEach [] X.env)).all (fun x => x.1.isSome)
      && decide ((e :: es).length + ([] : List Keyword).length + (if ([] : List Keyword).isEmpty then 0 else 1) < 30)) = true := by rfl)
    (hline : (apos.endLine == cpos.line) = true := by rfl) (hs : starEach (e :: es) X.env = (false, eval e X.env) :: starEach es X.env := by rfl) (hplain : (backTo cpos (starEach es X.env)).any (·.1) = false := by rfl) :
    AE X W (.Call (.Attribute o "extend" apos) (e :: es) [] cpos) (mMt isLs fExtend mo ms) :=
  ae_mt sm_extend (pe_bm PySem.F.plainAttrs_list PySem.F.slot_list_extend PySem.F.type_list_extend mt_extend ho ha hbase hfew hline hs hplain)
theorem x_popAt {apos cpos : Pos} {ms : S → R (List Vl)} (ho : AE X W o mo) (ha : AA X W (e :: es) ms) (hbase : attributeBase o "pop" X.env (eval o X.env) = eval o X.env := by rfl)
    (hfew : ((backTo cpos (starEach (e :: es) X.env)).all (fun x => !x.1) && (backToKw cpos (keywordEach [] X.env)).all (fun x => x.1.isSome)
      && decide ((e :: es).length + ([] : List Keyword).length + (if ([] : List Keyword).isEmpty then 0 else 1) < 30)) = true := by rfl)
    (hline : (apos.endLine == cpos.line) = true := by rfl) (hs : starEach (e :: es) X.env = (false, eval e X.env) :: starEach es X.env := by rfl) (hplain : (backTo cpos (starEach es X.env)).any (·.1) = false := by rfl) :
    AE X W (.Call (.Attribute o "pop" apos) (e :: es) [] cpos) (mMt isLs fPopAt mo ms) :=
  ae_mt sm_popAt (pe_bm PySem.F.plainAttrs_list PySem.F.slot_list_pop PySem.F.type_list_pop mt_popAt ho ha hbase hfew hline hs hplain)
theorem x_pop {apos cpos : Pos} (ho : AE X W o mo) (hbase : attributeBase o "pop" X.env (eval o X.env) = eval o X.env := by rfl) (hline : (apos.endLine == cpos.line) = true := by rfl) :
    AE X W (.Call (.Attribute o "pop" apos) [] [] cpos) (mMt0 isLs fPop mo) :=
  ae_mt0 sm_pop (pe_bm0 PySem.F.plainAttrs_list PySem.F.slot_list_pop PySem.F.type_list_pop mt_pop ho hbase hline)
end
end RA
set_option Elab.async false
set_option linter.all false
set_option maxRecDepth 100000
set_option maxHeartbeats 4000000
namespace RA
open PySem PySem.Spec PyProof.Rows L2

/-- a module's constant -/
def Con0 (mg : Str → Option Value) (x : Str) (v : V) : Prop := ∃ u, mg x = some u ∧ RelV v u
def ConT (K : PySem.W.Frag) (mg : Str → Option Value) (x : Str) (ds : List D) : Prop := ∃ a vs, mg x = some (.ref a) ∧ KTup K a vs ∧ ∀ A H, RVs K A H vs ds
section
variable {X : Cx} {W : WX} {k : Nat} {e a b c : Expr} {es : List Expr} {ma mb mc : S → R Vl} {pos p : Pos} {x : Str} {ms : S → R (List Vl)}
theorem x_con {v : V} {d : D} (h : Con0 X.mg x v) (r : ∀ A H, RV X.K A H v d) (hg : Gl X x := by rfl) (hd : (x == ("__debug__" : Str)) = false := by decide) : AE X W (.Name x pos) (mC d) := by
  obtain ⟨u, h1, h2⟩ := h
  exact ae_c (pe_glob hg h1 h2 hd) r
def mKT (ds : List D) : S → R Vl := fun st => .ok (.kt ds) st
theorem x_kt {ds : List D} (h : ConT X.K X.mg x ds) (hg : Gl X x := by rfl) (hd : (x == ("__debug__" : Str)) = false := by decide) : AE X W (.Name x pos) (mKT ds) := by
  obtain ⟨a, vs, h1, h2, h3⟩ := h
  exact PE.imp (pe_glob (v := .ref a) hg h1 rfl hd) fun σ H Q ⟨A, st, sr, q⟩ => q.here sr (.ref a) ⟨a, vs, rfl, h2, h3 A H⟩
def tYes1 : S → R Bool := fun st => .ok true st
def wFuel : Nat := 1000000
/-! chains -/
structure ChR (X : Cx) (W : WX) (op : CmpOp) (f : Vl → Vl → S → R Vl) where
  r : R2
  ho : OpR X (compareOp op) r
  so : SOp X.K X.mg W r f
def c_le : ChR X W .LtE opLe := ⟨_, op_le, so_le⟩
def c_lt : ChR X W .Lt opLt := ⟨_, op_lt2, so_lt⟩
def mChain (f g : Vl → Vl → S → R Vl) (ma mb mc : S → R Vl) : S → R Vl := fun st => (ma st).bind fun x s1 => (mb s1).bind fun y s2 => ((f x y s2).bind asB).bind fun b s3 => if b = true then (mc s3).bind fun z s4 => g y z s4 else .ok (.d (.bool false)) s3
theorem tr_chain {op op' : CmpOp} {f g : Vl → Vl → S → R Vl} (r1 : ChR X W op f) (r2 : ChR X W op' g) {σ : L2.St} {H : Hp} {Q : VK} (h : tr X.K X.mg W (mChain f g ma mb mc) σ H Q) : tChain r1.r r2.r (tr X.K X.mg W ma) (tr X.K X.mg W mb) (tr X.K X.mg W mc) σ H Q := by
  obtain ⟨A, st, sr, q⟩ := h
  exact ⟨A, st, sr, (PostX.bind q).imp fun x s1 H1 e1 sr1 p1 v rv => ⟨A, s1, sr1, (PostX.bind p1).imp fun y s2 H2 e2 sr2 p2 v2 rv2 => by
    have p3 : PostX X.K X.mg W A H2 σ ((f x y s2).bind asB) _ := PostX.bind p2
    refine r1.so A H2 σ s2 v v2 x y _ sr2 (rv.step e2) rv2 ((PostX.bind p3).imp fun z s3 H3 e3 sr3 p4 v3 rv3 => ?_)
    unfold asB at p4
    split at p4
    · cases rv3
      refine ⟨_, rfl, ?_⟩
      have p5 := PostX.here p4 sr3
      dsimp only at p5
      rename_i bb
      cases bb with
      | false => exact PostX.here p5 sr3 _ (.bl _)
      | true =>
        rw [if_pos rfl] at p5
        exact ⟨A, s3, sr3, (PostX.bind p5).imp fun z s4 H4 e4 sr4 p6 v4 rv4 => r2.so A H4 σ s4 v2 v4 y z _ sr4 ((rv2.step e3).step e4) rv4 p6⟩
    · exact p4.elim⟩⟩
theorem x_chain {op op' : CmpOp} {f g : Vl → Vl → S → R Vl} (r1 : ChR X W op f) (r2 : ChR X W op' g) (ha : AE X W a ma) (hb : AE X W b mb) (hc : AE X W c mc) (hm : lastMarks [op, op'] [b, c] = false := by with_unfolding_all rfl) : AE X W (.Compare a [op, op'] [b, c] pos) (mChain f g ma mb mc) :=
  PE.imp (pe_chain r1.ho r2.ho ha hb hc hm) fun σ H Q h => tr_chain r1 r2 h
theorem t_chain {op op' : CmpOp} {f g : Vl → Vl → S → R Vl} (r1 : ChR X W op f) (r2 : ChR X W op' g) (ha : AE X W a ma) (hb : AE X W b mb) (hc : AE X W c mc) (hm : lastMarks [op, op'] [b, c] = false := by with_unfolding_all rfl) : AT X W (.Compare a [op, op'] [b, c] pos) (mB (mChain f g ma mb mc)) :=
  PT.imp (pt_chain r1.ho r2.ho ha hb hc hm) fun σ H Q ⟨A, st, sr, q⟩ => tr_chain r1 r2 ⟨A, st, sr, (PostX.bind q).imp fun x s1 H1 e1 sr1 p1 v rv => by
    unfold asB at p1
    split at p1
    · cases rv; exact ⟨_, rfl, p1.here sr1⟩
    · exact p1.elim⟩
/-! isinstance by its words -/
theorem x_isi {T : String} {g : D → Bool} {pT : Pos} (hgd : IsiOk T g) (hm : X.mg "isinstance" = none) (hmT : X.mg (Str.ofString T) = none) (ha : AE X W e ma) (hg : Gl X "isinstance" := by rfl) (hgT : Gl X (Str.ofString T) := by rfl)
    (hv : bootBuiltins (Str.ofString T) = some (.type T) := by decide +kernel) (hn : Str.ofString T ≠ "__name__" := by decide) (hdT : (Str.ofString T == ("__debug__" : Str)) = false := by decide)
    (he : starEach [e, .Name (Str.ofString T) pT] X.env = (false, eval e X.env) :: starEach [.Name (Str.ofString T) pT] X.env := by rfl) (he2 : starEach [.Name (Str.ofString T) pT] X.env = (false, eval (.Name (Str.ofString T) pT) X.env) :: starEach [] X.env := by rfl)
    (hpl : (backTo pos (starEach [.Name (Str.ofString T) pT] X.env)).any (·.1) = false := by rfl) : AE X W (.Call (.Name "isinstance" p) [e, .Name (Str.ofString T) pT] [] pos) (m1 (fIsi g) ma) :=
  ae_isi hgd (pe_callB call_isi hg hm (by decide +kernel) (pa_cons ha (pa_cons (pe_bltn hgT hmT hv rfl hn hdT) pa_nil he2) he) (by decide) (by decide) he hpl)
theorem x_isi2 {T U : String} {g g2 : D → Bool} {pT pU pt : Pos} {kt : Nat} (hgd : IsiOk T g) (hgd2 : IsiOk U g2) (hm : X.mg "isinstance" = none) (hmT : X.mg (Str.ofString T) = none) (hmU : X.mg (Str.ofString U) = none) (ha : AE X W e ma) (hg : Gl X "isinstance" := by rfl) (hgT : Gl X (Str.ofString T) := by rfl) (hgU : Gl X (Str.ofString U) := by rfl)
    (hv : bootBuiltins (Str.ofString T) = some (.type T) := by decide +kernel) (hn : Str.ofString T ≠ "__name__" := by decide) (hdT : (Str.ofString T == ("__debug__" : Str)) = false := by decide)
    (hv2 : bootBuiltins (Str.ofString U) = some (.type U) := by decide +kernel) (hn2 : Str.ofString U ≠ "__name__" := by decide) (hdU : (Str.ofString U == ("__debug__" : Str)) = false := by decide)
    (he : starEach [e, .Tuple [.Name (Str.ofString T) pT, .Name (Str.ofString U) pU] kt pt] X.env = (false, eval e X.env) :: starEach [.Tuple [.Name (Str.ofString T) pT, .Name (Str.ofString U) pU] kt pt] X.env := by rfl)
    (he2 : starEach [.Tuple [.Name (Str.ofString T) pT, .Name (Str.ofString U) pU] kt pt] X.env = (false, eval (.Tuple [.Name (Str.ofString T) pT, .Name (Str.ofString U) pU] kt pt) X.env) :: starEach [] X.env := by rfl)
    (he3 : starEach [.Name (Str.ofString T) pT, .Name (Str.ofString U) pU] X.env = (false, eval (.Name (Str.ofString T) pT) X.env) :: starEach [.Name (Str.ofString U) pU] X.env := by rfl) (he4 : starEach [.Name (Str.ofString U) pU] X.env = (false, eval (.Name (Str.ofString U) pU) X.env) :: starEach [] X.env := by rfl)
    (hpl : (backTo pos (starEach [.Tuple [.Name (Str.ofString T) pT, .Name (Str.ofString U) pU] kt pt] X.env)).any (·.1) = false := by rfl) :
    AE X W (.Call (.Name "isinstance" p) [e, .Tuple [.Name (Str.ofString T) pT, .Name (Str.ofString U) pU] kt pt] [] pos) (m1 (fIsi fun d => g d || g2 d) ma) :=
  ae_isi2 hgd hgd2 (pe_callB call_isiT hg hm (by decide +kernel) (pa_cons ha (pa_cons (pe_tup (pa_cons (pe_bltn hgT hmT hv rfl hn hdT) (pa_cons (pe_bltn hgU hmU hv2 rfl hn2 hdU) pa_nil he4) he3)) pa_nil he2) he) (by decide) (by decide) he hpl)
end
/-! a, b = e, a new object: names that a comprehension knows too -/
section
variable {X : Cx} {W : WX} {a b : Expr} {ma : S → R Vl} {mb : S → R Ob} {pos px py pt pt2 : Pos} {kt k2 : Nat} {x y : Str}
theorem y_unpVF (i j : Nat) (hN : X.N.Nodup) (ha : AE X W a ma) (hb : AF X W b mb) (hij : i ≠ j := by decide) (hc : X.calm = true := by rfl) (hi : X.N[i]? = some x := by rfl) (hj : X.N[j]? = some y := by rfl)
    (hx : Loc X.env.scope x := by first | exact Or.inl rfl | exact Or.inr rfl) (hy : Loc X.env.scope y := by first | exact Or.inl rfl | exact Or.inr rfl)
    (hfx : X.fn x = true ∨ X.env.scope.names.lookup x = some .local := by first | exact .inl rfl | exact .inr rfl) (hfy : X.fn y = true ∨ X.env.scope.names.lookup y = some .local := by first | exact .inl rfl | exact .inr rfl)
    (h1 : starEach [a, b] X.env = (false, eval a X.env) :: starEach [b] X.env := by rfl) (h2 : starEach [b] X.env = (false, eval b X.env) :: starEach [] X.env := by rfl)
    (hs : swapsWithSole [.Tuple [.Name x px, .Name y py] kt pt] (.Tuple [a, b] k2 pt2) pos.line X.env = pure false := by rfl) (hw : swappedStores [.Tuple [.Name x px, .Name y py] kt pt] (.Tuple [a, b] k2 pt2) X.env = pure none := by rfl)
    (h3 : (assignEach [.Tuple [.Name x px, .Name y py] kt pt] X.env).map (·.2) = [assign (.Tuple [.Name x px, .Name y py] kt pt) X.env] := by rfl)
    (h4 : (assignEach [.Name x px, .Name y py] X.env).map (·.2) = assign (.Name x px) X.env :: (assignEach [.Name y py] X.env).map (·.2) := by rfl) (h5 : (assignEach [.Name y py] X.env).map (·.2) = assign (.Name y py) X.env :: (assignEach [] X.env).map (·.2) := by rfl)
    (hn : (assignEach [.Name x px, .Name y py] X.env).length = 2 := by rfl) (hst : (assignEach [.Name x px, .Name y py] X.env).findIdx? (·.1) = none := by rfl) :
    AS X W (.Assign [.Tuple [.Name x px, .Name y py] kt pt] (.Tuple [a, b] k2 pt2) pos) (sParVF i j ma mb) :=
  PS.imp (ps_asg (pe_tup (pa_cons ha (pa_cons hb pa_nil h2) h1)) (pg_tup hc (pgs_cons (pg_name hN hi hx hfx) (pgs_cons (pg_name hN hj hy hfy) pgs_nil h5) h4) hn hst) hs hw h3) fun D σ H ⟨A, s, sr, q⟩ =>
  ⟨A, s, sr, (PostS.of q).imp fun z s1 H1 e1 sr1 p1 v rv => ⟨A, s1, sr1, (PostS.keep (σ := σ) p1).imp fun w s2 H2 e2 sr2 p2 a2 na sra ro => by
    obtain ⟨_, p3⟩ := p2
    refine ⟨by show 2 ≤ sizeLine; decide, fun p hp => ⟨p, [v, .ref a2], rfl, .inl (.inl upd_same), rfl, v, [.ref a2], rfl, .ref a2, [], rfl, rfl, ?_⟩⟩
    split at p3
    · rename_i s3 e3
      have hne : H2 a2 ≠ none := sra.dj.dm a2 (live_push.mpr (.inl rfl))
      have hap : a2 ≠ p := fun z => hne (z ▸ hp)
      have step : Stp (A.push a2) H2 (upd H2 p (.tup [v, .ref a2])) := stp_new hp sra.dj
      have srn : SR X.K (A.push a2) (upd H2 p (.tup [v, .ref a2])) σ s2 := sra.newp (o := .tup [v, .ref a2]) hp (show 2 ≤ sizeLine by decide)
      have ron : RO X.K (A.push a2) (upd H2 p (.tup [v, .ref a2])) a2 w := ro.mono step.kp (upd_ne hap)
      have srj := srn.setO (i := j) ron (nlive sr1 na)
      have full : Stp A H1 (upd H2 p (.tup [v, .ref a2])) := e2.trans (stp_new hp sra.pop.dj)
      have rv2 : RW X.K (A.own j a2) (upd H2 p (.tup [v, .ref a2])) v z := RW.mono' ⟨full.keep, fun b l => (live_push.mp (live_own l)).elim (fun z => .inr (z ▸ na)) .inl⟩ ⟨[], by simp [Wd.own]⟩ (setW_notOwn e3) rv
      have sri := setW_ok srj rv2 e3
      rw [set_comm' hij] at sri
      exact p3 (A.own j a2) _ _ (ext_own full na) sri
    · exact p3.elim⟩⟩
end
end RA
set_option Elab.async false
set_option linter.all false
set_option maxRecDepth 100000
set_option maxHeartbeats 4000000
namespace RA
open PySem PySem.Spec PyProof.Rows L2 PySem.W

/-! ### list(zip(a, b)), the library's level -/
theorem zip_no_len : typeLookup (.type "zip") "__len__" = pure none := am_miss_of_fast (by decide +kernel)
theorem zip_no_hint : typeLookup (.type "zip") "__length_hint__" = pure none := am_miss_of_fast (by decide +kernel)
section
variable {prog : Program} {w : World} {A : Around} {E : Value → Shared → Prop} {s : Shared}
theorem zipT_next_held {z TI TO T i1 i2 l1 l2 : Addr} {f : Bool} {oT : Obj} {k1 k2 : Nat} {xs ys : Array Value} {x y : Value} {Q : Value → Shared → Prop} (D : ZipApart z TI TO i1 i2 l1 l2)
    (hz : IsZipHeld s.heap z TI TO T f) (hT : s.heap.get? T = some oT) (hTI : IsPair s.heap TI (.ref i1) (.ref i2))
    (h1 : s.heap.IsTupleIter i1 l1 k1) (h2 : s.heap.IsTupleIter i2 l2 k2) (hl1 : s.heap.IsTuple l1 xs) (hl2 : s.heap.IsTuple l2 ys) (hx : xs[k1]? = some x) (hy : ys[k2]? = some y)
    (hQ : ∀ h', IsZipHeld h' z TI TO T true → h'.IsTupleIter i1 l1 (k1 + 1) → h'.IsTupleIter i2 l2 (k2 + 1) → IsPair h' s.heap.objs.size x y → h'.objs.size = s.heap.objs.size + 1 →
      (∀ c o, c ≠ z → c ≠ i1 → c ≠ i2 → s.heap.get? c = some o → h'.get? c = some o) → Q (.ref s.heap.objs.size) { s with heap := h' }) :
    wpAny (model prog w) A (Builtin.«zip.__next__» ⟨[.ref z], []⟩) (fun fin s' => ∃ v, fin = .done (.ret v) ∧ Q v s') E s := by
  show wpAny _ _ (field (.ref z) 2 >>= _) _ _ _
  refine wpAny_bind (wpAny_field hz rfl (x := .bool false) rfl ?_)
  show wpAny _ _ (field (.ref z) 3 >>= _) _ _ _
  refine wpAny_bind (wpAny_field hz rfl (x := .ref TI) rfl ?_)
  refine wpAny_bind (wpAny_seqItems hTI rfl ?_)
  show wpAny _ _ (Builtin.SmallTypes.ownedTupleIsFree (.ref z) >>= _) _ _ _
  refine wpAny_bind (wpAny_tupleHeld_zip hz hT fun h₁ hz₁ hs₁ => ?_)
  simp only [Bool.false_eq_true, if_false]
  refine wpAny_bind ?_
  rw [← Array.forIn_toList]
  simp only [List.forIn_cons, List.forIn_nil]
  refine wpAny_bind (wpAny_bind (wpAny_holding ?_))
  show wpAny _ _ (Builtin.SmallTypes.nextOf (.ref i1) >>= _) _ _ _
  refine wpAny_bind (RZ.nextOf_tuple_item (s := { s with heap := h₁ }) (h1.extBut hs₁.extBut D.i1z) (hl1.extBut hs₁.extBut D.l1z) hx fun h₂ h1₂ hs₂ => wpAny_pure ?_)
  refine wpAny_pure ?_
  refine wpAny_bind (wpAny_bind (wpAny_holding ?_))
  show wpAny _ _ (Builtin.SmallTypes.nextOf (.ref i2) >>= _) _ _ _
  refine wpAny_bind (RZ.nextOf_tuple_item (s := { s with heap := h₂ }) ((h2.extBut hs₁.extBut D.i2z).extBut hs₂.extBut D.i12.symm) ((hl2.extBut hs₁.extBut D.l2z).extBut hs₂.extBut D.l2i1) hy fun h₃ h2₃ hs₃ => wpAny_pure ?_)
  refine wpAny_pure (wpAny_pure ?_)
  show wpAny _ _ (newTuple [x, y] >>= _) _ _ _
  refine wpAny_bind (wpAny_newTuple ?_)
  have hsz : h₃.objs.size = s.heap.objs.size := by rw [hs₃.1, hs₂.1, hs₁.1]
  have hz₃ : IsZipHeld h₃ z TI TO T true := hs₃.extBut _ _ D.i2z.symm (hs₂.extBut _ _ D.i1z.symm hz₁)
  have hk : ∀ c o, c ≠ z → c ≠ i1 → c ≠ i2 → s.heap.get? c = some o → h₃.get? c = some o := fun c o c1 c2 c3 e => hs₃.extBut _ _ c3 (hs₂.extBut _ _ c2 (hs₁.extBut _ _ c1 e))
  have h1₃ : h₃.IsTupleIter i1 l1 (k1 + 1) := h1₂.extBut hs₃.extBut D.i12
  refine wpAny_pure ⟨_, rfl, ?_⟩
  show Q (.ref h₃.objs.size) _
  have hp : IsPair (h₃.push { cls := .type "tuple", data := .seq #[x, y] }) h₃.objs.size x y := Heap.get?_push_size _ rfl
  have hz4 : (h₃.push { cls := .type "tuple", data := .seq #[x, y] }).objs.size = h₃.objs.size + 1 := Heap.size_push ..
  rw [hsz] at hp hz4 ⊢
  exact hQ _ (Heap.get?_push_of_some _ hz₃) (h1₃.at fun o e => Heap.get?_push_of_some _ e) (h2₃.at fun o e => Heap.get?_push_of_some _ e) hp hz4 fun c o c1 c2 c3 e => Heap.get?_push_of_some _ (hk c o c1 c2 c3 e)
theorem zipT_end_held {z TI TO T i1 i2 l1 l2 : Addr} {f : Bool} {oT : Obj} {k1 k2 : Nat} {xs ys : Array Value} {Q : Fin → Shared → Prop} (hh : A.handled = none) (D : ZipApart z TI TO i1 i2 l1 l2)
    (hz : IsZipHeld s.heap z TI TO T f) (hT : s.heap.get? T = some oT) (hTI : IsPair s.heap TI (.ref i1) (.ref i2))
    (h1 : s.heap.IsTupleIter i1 l1 k1) (h2 : s.heap.IsTupleIter i2 l2 k2) (hl1 : s.heap.IsTuple l1 xs) (hl2 : s.heap.IsTuple l2 ys) (hend : xs[k1]? = none ∨ ys[k2]? = none)
    (hE : ∀ h' e, (∀ c o, c ≠ z → c ≠ i1 → c ≠ i2 → s.heap.get? c = some o → h'.get? c = some o) → (∃ o, h'.get? e = some o ∧ o.cls = .type "StopIteration") → E (.ref e) { s with heap := h' }) :
    wpAny (model prog w) A (Builtin.«zip.__next__» ⟨[.ref z], []⟩) Q E s := by
  show wpAny _ _ (field (.ref z) 2 >>= _) _ _ _
  refine wpAny_bind (wpAny_field hz rfl (x := .bool false) rfl ?_)
  show wpAny _ _ (field (.ref z) 3 >>= _) _ _ _
  refine wpAny_bind (wpAny_field hz rfl (x := .ref TI) rfl ?_)
  refine wpAny_bind (wpAny_seqItems hTI rfl ?_)
  show wpAny _ _ (Builtin.SmallTypes.ownedTupleIsFree (.ref z) >>= _) _ _ _
  refine wpAny_bind (wpAny_tupleHeld_zip hz hT fun h₁ hz₁ hs₁ => ?_)
  simp only [Bool.false_eq_true, if_false]
  refine wpAny_bind ?_
  rw [← Array.forIn_toList]
  simp only [List.forIn_cons, List.forIn_nil]
  refine wpAny_bind (wpAny_bind (wpAny_holding ?_))
  show wpAny _ _ (Builtin.SmallTypes.nextOf (.ref i1) >>= _) _ _ _
  cases hx : xs[k1]? with
  | none =>
    refine wpAny_bind (RZ.nextOf_tuple_end (s := { s with heap := h₁ }) hh (h1.extBut hs₁.extBut D.i1z) (hl1.extBut hs₁.extBut D.l1z) hx fun h₂ e hs₂ he => ?_)
    exact hE h₂ e (fun c o c1 c2 _ x => hs₂ _ _ c2 (hs₁.extBut _ _ c1 x)) he
  | some x =>
    have hy : ys[k2]? = none := by rcases hend with h | h; rw [hx] at h; cases h; exact h
    refine wpAny_bind (RZ.nextOf_tuple_item (s := { s with heap := h₁ }) (h1.extBut hs₁.extBut D.i1z) (hl1.extBut hs₁.extBut D.l1z) hx fun h₂ h1₂ hs₂ => wpAny_pure ?_)
    refine wpAny_pure ?_
    refine wpAny_bind (wpAny_bind (wpAny_holding ?_))
    show wpAny _ _ (Builtin.SmallTypes.nextOf (.ref i2) >>= _) _ _ _
    refine wpAny_bind (RZ.nextOf_tuple_end (s := { s with heap := h₂ }) hh ((h2.extBut hs₁.extBut D.i2z).extBut hs₂.extBut D.i12.symm) ((hl2.extBut hs₁.extBut D.l2z).extBut hs₂.extBut D.l2i1) hy fun h₃ e hs₃ he => ?_)
    exact hE h₃ e (fun c o c1 c2 c3 x => hs₃ _ _ c3 (hs₂.extBut _ _ c2 (hs₁.extBut _ _ c1 x))) he
theorem pyNext_zipT_held {z TI TO T i1 i2 l1 l2 : Addr} {f : Bool} {oT : Obj} {k1 k2 : Nat} {xs ys : Array Value} {x y : Value} {Q : Option Value → Shared → Prop} (D : ZipApart z TI TO i1 i2 l1 l2)
    (hz : IsZipHeld s.heap z TI TO T f) (hT : s.heap.get? T = some oT) (hTI : IsPair s.heap TI (.ref i1) (.ref i2))
    (h1 : s.heap.IsTupleIter i1 l1 k1) (h2 : s.heap.IsTupleIter i2 l2 k2) (hl1 : s.heap.IsTuple l1 xs) (hl2 : s.heap.IsTuple l2 ys) (hx : xs[k1]? = some x) (hy : ys[k2]? = some y)
    (hQ : ∀ h', IsZipHeld h' z TI TO T true → h'.IsTupleIter i1 l1 (k1 + 1) → h'.IsTupleIter i2 l2 (k2 + 1) → IsPair h' s.heap.objs.size x y → h'.objs.size = s.heap.objs.size + 1 →
      (∀ c o, c ≠ z → c ≠ i1 → c ≠ i2 → s.heap.get? c = some o → h'.get? c = some o) → Q (some (.ref s.heap.objs.size)) { s with heap := h' }) :
    wpAny (model prog w) A (pyNext (.ref z)) Q E s := by
  have hTy : s.TypeIs (.ref z) "zip" := ⟨_, hz, rfl⟩
  unfold pyNext
  exact wpAny_bind (wpAny_attempt (wpAny_callSpecial?_slot (name := Str.ofString "__next__") hTy F.slot_zip_next
    (wpAny_call_entry F.slot_zip_next hTy F.entry_zip_next
      (zipT_next_held D hz hT hTI h1 h2 hl1 hl2 hx hy fun h' a1 a3 a4 a5 a6 a7 => wpAny_pure (hQ h' a1 a3 a4 a5 a6 a7)) (F.args_zip_next_1 _))))
theorem pyNext_zipT_end_held {z TI TO T i1 i2 l1 l2 : Addr} {f : Bool} {oT : Obj} {k1 k2 : Nat} {xs ys : Array Value} {Q : Option Value → Shared → Prop} (hh : A.handled = none) (D : ZipApart z TI TO i1 i2 l1 l2)
    (hz : IsZipHeld s.heap z TI TO T f) (hT : s.heap.get? T = some oT) (hTI : IsPair s.heap TI (.ref i1) (.ref i2))
    (h1 : s.heap.IsTupleIter i1 l1 k1) (h2 : s.heap.IsTupleIter i2 l2 k2) (hl1 : s.heap.IsTuple l1 xs) (hl2 : s.heap.IsTuple l2 ys) (hend : xs[k1]? = none ∨ ys[k2]? = none)
    (hQ : ∀ h', (∀ c o, c ≠ z → c ≠ i1 → c ≠ i2 → s.heap.get? c = some o → h'.get? c = some o) → Q none { s with heap := h' }) : wpAny (model prog w) A (pyNext (.ref z)) Q E s := by
  have hTy : s.TypeIs (.ref z) "zip" := ⟨_, hz, rfl⟩
  unfold pyNext
  refine wpAny_bind (wpAny_attempt (wpAny_callSpecial?_slot (name := Str.ofString "__next__") hTy F.slot_zip_next
    (wpAny_call_entry F.slot_zip_next hTy F.entry_zip_next (zipT_end_held hh D hz hT hTI h1 h2 hl1 hl2 hend fun h' e hk he => ?_) (F.args_zip_next_1 _))))
  obtain ⟨o, ho, hc⟩ := he
  refine wpAny_bind (wpAny_isInstance (T := "StopIteration") (b := true) ⟨o, ho, hc⟩ isSubtype_stop ?_)
  exact wpAny_pure (hQ _ hk)
end
/-- a zip whose tuples are kept, at its i-th turn; S: the list that grows -/
structure ZIt (prog : Program) (w : World) (z S : Addr) (ch : List Addr) (P : Nat → Value → Value → Prop) (n : Nat) (St : Nat → Heap → Prop) : Prop where
  zin : z ∈ ch
  off : S ∉ ch
  zip : ∀ i h, St i h → ∃ o, h.get? z = some o ∧ o.cls = .type "zip"
  lt : ∀ i h, St i h → ∀ c ∈ ch, c < h.objs.size
  frame : ∀ i h h', St i h → (∀ b o, b ≠ S → h.get? b = some o → h'.get? b = some o) → St i h'
  iter : ∀ (A : Around) (i : Nat) (s : Shared) (Q : Value → Shared → Prop) (E : Value → Shared → Prop), St i s.heap → Q (.ref z) s → wpAny (model prog w) A (pyIter (.ref z)) Q E s
  item : ∀ (A : Around) (i : Nat) (s : Shared) (Q : Option Value → Shared → Prop) (E : Value → Shared → Prop), i < n → St i s.heap → S < s.heap.objs.size →
    (∀ h' x y, P i x y → St (i + 1) h' → IsPair h' s.heap.objs.size x y → h'.objs.size = s.heap.objs.size + 1 → (∀ c o, c ∉ ch → s.heap.get? c = some o → h'.get? c = some o) → Q (some (.ref s.heap.objs.size)) { s with heap := h' }) →
    wpAny (model prog w) A (pyNext (.ref z)) Q E s
  done : ∀ (A : Around) (s : Shared) (Q : Option Value → Shared → Prop) (E : Value → Shared → Prop), A.handled = none → St n s.heap →
    (∀ h', (∀ c o, c ∉ ch → s.heap.get? c = some o → h'.get? c = some o) → Q none { s with heap := h' }) → wpAny (model prog w) A (pyNext (.ref z)) Q E s
theorem not5 {c z TI TO i1 i2 : Addr} (h : c ∉ [z, TI, TO, i1, i2]) : c ≠ z ∧ c ≠ TI ∧ c ≠ TO ∧ c ≠ i1 ∧ c ≠ i2 := by simpa using h
theorem zit_list {prog : Program} {w : World} {z TI TO i1 i2 l1 l2 S : Addr} (D : ZipApart z TI TO i1 i2 l1 l2) (xs ys : Array Value) (hS : S ∉ [z, TI, TO, i1, i2]) (hS1 : S ≠ l1) (hS2 : S ≠ l2) :
    ZIt prog w z S [z, TI, TO, i1, i2] (fun i x y => xs[i]? = some x ∧ ys[i]? = some y) (min xs.size ys.size)
      (fun i h => IsPair h TI (.ref i1) (.ref i2) ∧ h.IsListIter i1 l1 i ∧ h.IsListIter i2 l2 i ∧ h.IsList l1 xs ∧ h.IsList l2 ys ∧ (∃ a b, IsPair h TO a b) ∧ (IsZip h z TI TO .none ∨ ∃ T f oT, IsZipHeld h z TI TO T f ∧ h.get? T = some oT ∧ T ≠ z ∧ T ≠ i1 ∧ T ≠ i2 ∧ T ≠ S)) where
  zin := by simp
  off := hS
  zip i h st := by
    obtain ⟨_, _, _, _, _, _, e | ⟨T, f, oT, e, _⟩⟩ := st
    · exact ⟨_, e, rfl⟩
    · exact ⟨_, e, rfl⟩
  lt i h st c hc := by
    obtain ⟨e1, ⟨o1, e2, _⟩, ⟨o2, e3, _⟩, _, _, ⟨a, b, eO⟩, e | ⟨T, f, oT, e, _⟩⟩ := st <;>
    · simp only [List.mem_cons, List.not_mem_nil, or_false] at hc
      rcases hc with rfl | rfl | rfl | rfl | rfl <;> first | exact Heap.lt_size e | exact Heap.lt_size e1 | exact Heap.lt_size eO | exact Heap.lt_size e2 | exact Heap.lt_size e3
  frame i h h' st k := by
    have n5 := not5 hS
    obtain ⟨e1, e2, e3, e4, e5, ⟨a, b, eO⟩, ez⟩ := st
    refine ⟨k _ _ n5.2.1.symm e1, e2.at fun o q => k _ o n5.2.2.2.1.symm q, e3.at fun o q => k _ o n5.2.2.2.2.symm q, e4.at fun o q => k _ o hS1.symm q, e5.at fun o q => k _ o hS2.symm q, ⟨a, b, k _ _ n5.2.2.1.symm eO⟩, ?_⟩
    rcases ez with e | ⟨T, f, oT, e, g, a, b, c, d⟩
    · exact .inl (k _ _ n5.1.symm e)
    · exact .inr ⟨T, f, oT, k _ _ n5.1.symm e, k _ _ d g, a, b, c, d⟩
  iter A i s Q E st q := by
    obtain ⟨_, _, _, _, _, _, e | ⟨T, f, oT, e, _⟩⟩ := st
    · exact wpAny_pyIter_zip e q
    · have hT : s.TypeIs (.ref z) "zip" := ⟨_, e, rfl⟩
      exact wpAny_pyIter_slot hT F.slot_zip_iter (wpAny_call_entry F.slot_zip_iter hT F.entry_zip_iter (wpAny_pure ⟨_, rfl, "zip", _, ⟨_, e, rfl⟩, F.slot_zip_next.lookup, q⟩) (F.args_zip_iter_1 _))
  item A i s Q E hi st hs hQ := by
    obtain ⟨e1, e2, e3, e4, e5, ⟨a, b, eO⟩, ez⟩ := st
    have ex := Array.getElem?_eq_getElem (Nat.lt_of_lt_of_le hi (Nat.min_le_left xs.size ys.size))
    have ey := Array.getElem?_eq_getElem (Nat.lt_of_lt_of_le hi (Nat.min_le_right xs.size ys.size))
    have lt : ∀ {c o}, s.heap.get? c = some o → s.heap.objs.size ≠ c := fun q => Nat.ne_of_gt (Heap.lt_size q)
    have n1 : s.heap.objs.size ≠ i1 := let ⟨_, q, _⟩ := e2; lt q
    have n2 : s.heap.objs.size ≠ i2 := let ⟨_, q, _⟩ := e3; lt q
    rcases ez with e | ⟨T, f, oT, e, g, r1, r2, r3, r4⟩
    · refine wpAny_pyNext_zip_item D e e1 eO e2 e3 e4 e5 ex ey fun h' a1 a2 a3 a4 a5 a6 hk => hQ h' _ _ ⟨ex, ey⟩ ?_ a5 a6 fun c o hc q => hk c o (not5 hc).1 (not5 hc).2.2.1 (not5 hc).2.2.2.1 (not5 hc).2.2.2.2 q
      exact ⟨hk _ _ D.TIz D.TITO D.TIi1 D.TIi2 e1, a3, a4, e4.at fun o q => hk _ o D.l1z D.l1TO D.l1i1 D.l1i2 q, e5.at fun o q => hk _ o D.l2z D.l2TO D.l2i1 D.l2i2 q, ⟨_, _, a2⟩, .inr ⟨s.heap.objs.size, false, _, a1, a5, lt e, n1, n2, Nat.ne_of_gt hs⟩⟩
    · refine wpAny_pyNext_zip_item_held D e g e1 e2 e3 e4 e5 ex ey fun h' a1 a3 a4 a5 a6 hk => hQ h' _ _ ⟨ex, ey⟩ ?_ a5 a6 fun c o hc q => hk c o (not5 hc).1 (not5 hc).2.2.2.1 (not5 hc).2.2.2.2 q
      exact ⟨hk _ _ D.TIz D.TIi1 D.TIi2 e1, a3, a4, e4.at fun o q => hk _ o D.l1z D.l1i1 D.l1i2 q, e5.at fun o q => hk _ o D.l2z D.l2i1 D.l2i2 q, ⟨_, _, hk _ _ D.TOz D.TOi1 D.TOi2 eO⟩, .inr ⟨T, true, oT, a1, hk _ _ r1 r2 r3 g, r1, r2, r3, r4⟩⟩
  done A s Q E hh st hQ := by
    obtain ⟨e1, e2, e3, e4, e5, ⟨a, b, eO⟩, ez⟩ := st
    have hend : xs[min xs.size ys.size]? = none ∨ ys[min xs.size ys.size]? = none := by
      rcases Nat.le_total xs.size ys.size with h | h
      · exact .inl (Array.getElem?_eq_none (by omega))
      · exact .inr (Array.getElem?_eq_none (by omega))
    rcases ez with e | ⟨T, f, oT, e, g, r1, r2, r3, r4⟩
    · exact wpAny_pyNext_zip_end hh D e e1 eO e2 e3 e4 e5 hend fun h' hk => hQ h' fun c o hc q => hk c o (not5 hc).1 (not5 hc).2.2.1 (not5 hc).2.2.2.1 (not5 hc).2.2.2.2 q
    · exact wpAny_pyNext_zip_end_held hh D e g e1 e2 e3 e4 e5 hend fun h' hk => hQ h' fun c o hc q => hk c o (not5 hc).1 (not5 hc).2.2.2.1 (not5 hc).2.2.2.2 q
theorem zit_tup {prog : Program} {w : World} {z TI TO i1 i2 l1 l2 S : Addr} (D : ZipApart z TI TO i1 i2 l1 l2) (xs ys : Array Value) (hS : S ∉ [z, TI, TO, i1, i2]) (hS1 : S ≠ l1) (hS2 : S ≠ l2) :
    ZIt prog w z S [z, TI, TO, i1, i2] (fun i x y => xs[i]? = some x ∧ ys[i]? = some y) (min xs.size ys.size)
      (fun i h => IsPair h TI (.ref i1) (.ref i2) ∧ h.IsTupleIter i1 l1 i ∧ h.IsTupleIter i2 l2 i ∧ h.IsTuple l1 xs ∧ h.IsTuple l2 ys ∧ (∃ a b, IsPair h TO a b) ∧ (IsZip h z TI TO .none ∨ ∃ T f oT, IsZipHeld h z TI TO T f ∧ h.get? T = some oT ∧ T ≠ z ∧ T ≠ i1 ∧ T ≠ i2 ∧ T ≠ S)) where
  zin := by simp
  off := hS
  zip i h st := by
    obtain ⟨_, _, _, _, _, _, e | ⟨T, f, oT, e, _⟩⟩ := st
    · exact ⟨_, e, rfl⟩
    · exact ⟨_, e, rfl⟩
  lt i h st c hc := by
    obtain ⟨e1, ⟨o1, e2, _⟩, ⟨o2, e3, _⟩, _, _, ⟨a, b, eO⟩, e | ⟨T, f, oT, e, _⟩⟩ := st <;>
    · simp only [List.mem_cons, List.not_mem_nil, or_false] at hc
      rcases hc with rfl | rfl | rfl | rfl | rfl <;> first | exact Heap.lt_size e | exact Heap.lt_size e1 | exact Heap.lt_size eO | exact Heap.lt_size e2 | exact Heap.lt_size e3
  frame i h h' st k := by
    have n5 := not5 hS
    obtain ⟨e1, e2, e3, e4, e5, ⟨a, b, eO⟩, ez⟩ := st
    refine ⟨k _ _ n5.2.1.symm e1, e2.at fun o q => k _ o n5.2.2.2.1.symm q, e3.at fun o q => k _ o n5.2.2.2.2.symm q, e4.at fun o q => k _ o hS1.symm q, e5.at fun o q => k _ o hS2.symm q, ⟨a, b, k _ _ n5.2.2.1.symm eO⟩, ?_⟩
    rcases ez with e | ⟨T, f, oT, e, g, a, b, c, d⟩
    · exact .inl (k _ _ n5.1.symm e)
    · exact .inr ⟨T, f, oT, k _ _ n5.1.symm e, k _ _ d g, a, b, c, d⟩
  iter A i s Q E st q := by
    obtain ⟨_, _, _, _, _, _, e | ⟨T, f, oT, e, _⟩⟩ := st
    · exact wpAny_pyIter_zip e q
    · have hT : s.TypeIs (.ref z) "zip" := ⟨_, e, rfl⟩
      exact wpAny_pyIter_slot hT F.slot_zip_iter (wpAny_call_entry F.slot_zip_iter hT F.entry_zip_iter (wpAny_pure ⟨_, rfl, "zip", _, ⟨_, e, rfl⟩, F.slot_zip_next.lookup, q⟩) (F.args_zip_iter_1 _))
  item A i s Q E hi st hs hQ := by
    obtain ⟨e1, e2, e3, e4, e5, ⟨a, b, eO⟩, ez⟩ := st
    have ex := Array.getElem?_eq_getElem (Nat.lt_of_lt_of_le hi (Nat.min_le_left xs.size ys.size))
    have ey := Array.getElem?_eq_getElem (Nat.lt_of_lt_of_le hi (Nat.min_le_right xs.size ys.size))
    have lt : ∀ {c o}, s.heap.get? c = some o → s.heap.objs.size ≠ c := fun q => Nat.ne_of_gt (Heap.lt_size q)
    have n1 : s.heap.objs.size ≠ i1 := let ⟨_, q, _⟩ := e2; lt q
    have n2 : s.heap.objs.size ≠ i2 := let ⟨_, q, _⟩ := e3; lt q
    rcases ez with e | ⟨T, f, oT, e, g, r1, r2, r3, r4⟩
    · refine RZ.pyNext_zipT_item D e e1 eO e2 e3 e4 e5 ex ey fun h' a1 a2 a3 a4 a5 a6 hk => hQ h' _ _ ⟨ex, ey⟩ ?_ a5 a6 fun c o hc q => hk c o (not5 hc).1 (not5 hc).2.2.1 (not5 hc).2.2.2.1 (not5 hc).2.2.2.2 q
      exact ⟨hk _ _ D.TIz D.TITO D.TIi1 D.TIi2 e1, a3, a4, e4.at fun o q => hk _ o D.l1z D.l1TO D.l1i1 D.l1i2 q, e5.at fun o q => hk _ o D.l2z D.l2TO D.l2i1 D.l2i2 q, ⟨_, _, a2⟩, .inr ⟨s.heap.objs.size, false, _, a1, a5, lt e, n1, n2, Nat.ne_of_gt hs⟩⟩
    · refine pyNext_zipT_held D e g e1 e2 e3 e4 e5 ex ey fun h' a1 a3 a4 a5 a6 hk => hQ h' _ _ ⟨ex, ey⟩ ?_ a5 a6 fun c o hc q => hk c o (not5 hc).1 (not5 hc).2.2.2.1 (not5 hc).2.2.2.2 q
      exact ⟨hk _ _ D.TIz D.TIi1 D.TIi2 e1, a3, a4, e4.at fun o q => hk _ o D.l1z D.l1i1 D.l1i2 q, e5.at fun o q => hk _ o D.l2z D.l2i1 D.l2i2 q, ⟨_, _, hk _ _ D.TOz D.TOi1 D.TOi2 eO⟩, .inr ⟨T, true, oT, a1, hk _ _ r1 r2 r3 g, r1, r2, r3, r4⟩⟩
  done A s Q E hh st hQ := by
    obtain ⟨e1, e2, e3, e4, e5, ⟨a, b, eO⟩, ez⟩ := st
    have hend : xs[min xs.size ys.size]? = none ∨ ys[min xs.size ys.size]? = none := by
      rcases Nat.le_total xs.size ys.size with h | h
      · exact .inl (Array.getElem?_eq_none (by omega))
      · exact .inr (Array.getElem?_eq_none (by omega))
    rcases ez with e | ⟨T, f, oT, e, g, r1, r2, r3, r4⟩
    · exact RZ.pyNext_zipT_end hh D e e1 eO e2 e3 e4 e5 hend fun h' hk => hQ h' fun c o hc q => hk c o (not5 hc).1 (not5 hc).2.2.1 (not5 hc).2.2.2.1 (not5 hc).2.2.2.2 q
    · exact pyNext_zipT_end_held hh D e g e1 e2 e3 e4 e5 hend fun h' hk => hQ h' fun c o hc q => hk c o (not5 hc).1 (not5 hc).2.2.2.1 (not5 hc).2.2.2.2 q
/-- what has been put into the list: new pairs, each at a place of its own -/
def PrsAt (h : Heap) (base : Nat) (P : Nat → Value → Value → Prop) (Ts : List Addr) : Prop :=
  (∀ j T, Ts[j]? = some T → base ≤ T ∧ T < h.objs.size ∧ ∃ x y, P j x y ∧ IsPair h T x y) ∧ Ts.Nodup
theorem PrsAt.keep {h h' : Heap} {base : Nat} {P : Nat → Value → Value → Prop} {Ts : List Addr} (p : PrsAt h base P Ts) (k : ∀ b o, base ≤ b → h.get? b = some o → h'.get? b = some o) (hz : h.objs.size ≤ h'.objs.size) : PrsAt h' base P Ts :=
  ⟨fun j T e => let ⟨a, b, x, y, c, d⟩ := p.1 j T e; ⟨a, Nat.lt_of_lt_of_le b hz, x, y, c, k _ _ a d⟩, p.2⟩
theorem PrsAt.last {h h' : Heap} {base : Nat} {P : Nat → Value → Value → Prop} {Ts : List Addr} (p : PrsAt h base P Ts) (k : ∀ b o, base ≤ b → h.get? b = some o → h'.get? b = some o) : PrsAt h' base P Ts :=
  ⟨fun j T e => let ⟨a, b, x, y, c, d⟩ := p.1 j T e; ⟨a, Heap.lt_size (k _ _ a d), x, y, c, k _ _ a d⟩, p.2⟩
theorem PrsAt.add {h h' : Heap} {base : Nat} {P : Nat → Value → Value → Prop} {Ts : List Addr} (p : PrsAt h base P Ts) (k : ∀ b o, base ≤ b → h.get? b = some o → h'.get? b = some o) (hb : base ≤ h.objs.size) (hz : h'.objs.size = h.objs.size + 1) {x y : Value} (hp : P Ts.length x y) (hT : IsPair h' h.objs.size x y) : PrsAt h' base P (Ts ++ [h.objs.size]) := by
  refine ⟨fun j T e => ?_, ?_⟩
  · by_cases hj : j < Ts.length
    · rw [List.getElem?_append_left hj] at e
      exact (p.keep k (by omega)).1 j T e
    · rw [List.getElem?_append_right (by omega)] at e
      have hj0 : j - Ts.length = 0 := by
        have := (List.getElem?_eq_some_iff.mp e).1
        simp at this
        omega
      rw [hj0] at e
      cases e
      have : j = Ts.length := by omega
      subst this
      exact ⟨hb, by omega, x, y, hp, hT⟩
  · refine List.nodup_append.mpr ⟨p.2, by simp, fun a ha b hb => ?_⟩
    obtain ⟨j, hj⟩ := List.mem_iff_getElem?.mp ha
    have q := (p.1 j a hj).2.1
    rw [List.mem_singleton.mp hb]
    exact Nat.ne_of_lt q
section
variable {prog : Program} {w : World} {A : Around} {E : Value → Shared → Prop} {s : Shared} {z S : Addr} {ch : List Addr} {P : Nat → Value → Value → Prop} {n : Nat} {St : Nat → Heap → Prop}
theorem zl_loop {R : Result → Shared → Prop} {res : Value} {base : Nat} {s₀ : Shared} (Z : ZIt prog w z S ch P n St) (hn : n ≤ sizeLine) (hh : A.handled = none) (hch : ∀ c ∈ ch, c < base) (hSb : S < base)
    (hend : ∀ h' tk acc c Ts, (∀ b o, b ≠ S → b ∉ ch → s₀.heap.get? b = some o → h'.get? b = some o) → h'.get? S = some (lstObj acc c) → acc.toList = Ts.map Value.ref → Ts.length = n → PrsAt h' base P Ts → R (.ok (.ret res)) { s₀ with heap := h', toks := tk }) :
    ∀ (m i : Nat) (h : Heap) (tk : Nat) (acc : Array Value) (c : Nat) (Ts : List Addr), n = i + m → St i h → base ≤ h.objs.size → h.get? S = some (lstObj acc c) → acc.toList = Ts.map Value.ref → Ts.length = i → PrsAt h base P Ts → (∀ b o, b ≠ S → b ∉ ch → s₀.heap.get? b = some o → h.get? b = some o) →
      codeAny (model prog w) A (.builtin "list.extend.loop" ⟨[.ref S, .ref z, res], []⟩) R { s₀ with heap := h, toks := tk } := by
  intro m
  induction m with
  | zero =>
    intro i h tk acc c Ts hi st hb hS ha hl hp hk
    have : i = n := by omega
    subst this
    refine codeAny_builtin F.entry_extend_loop ?_
    rw [Around.under_plainId F.plain_extend_loop _]
    show wpAny _ A.in1 (pyNext (.ref z) >>= _) _ _ _
    refine wpAny_bind (Z.done A.in1 _ _ _ hh st fun h' k => ?_)
    exact wpAny_pure (hend h' tk acc c Ts (fun b o b1 b2 e => k b o b2 (hk b o b1 b2 e)) (k _ _ Z.off hS) ha hl (hp.last fun b o hbb e => k b o (fun q => Nat.not_lt.mpr hbb (hch b q)) e))
  | succ m ih =>
    intro i h tk acc c Ts hi st hb hS ha hl hp hk
    refine codeAny_builtin F.entry_extend_loop ?_
    rw [Around.under_plainId F.plain_extend_loop _]
    show wpAny _ A.in1 (pyNext (.ref z) >>= _) _ _ _
    have hSl : S < h.objs.size := Heap.lt_size hS
    refine wpAny_bind (Z.item A.in1 i _ _ _ (by omega) st hSl fun h' x y hxy st' hT hz k => ?_)
    have hS' := k _ _ Z.off hS
    have hasz : acc.size = i := by rw [← Array.length_toList, ha, List.length_map, hl]
    show wpAny _ A.in1 (updateSeq S (·.push _) >>= _) _ _ _
    refine wpAny_bind ?_
    refine wpAny_updateSeq hS' rfl (wpAny_pure ⟨plainId_quiet F.plain_extend_loop _, ?_⟩) (by omega) (by show (acc.push _).size ≤ sizeLine + 1; rw [Array.size_push]; omega)
    have keep3 : ∀ b o, b ≠ S → h'.get? b = some o → (h'.update S (Obj.mapSeq (·.push (.ref h.objs.size)))).get? b = some o := fun b o q e => (Heap.get?_update_other _ _ (Ne.symm q)).trans e
    have hz3 : (h'.update S (Obj.mapSeq (·.push (.ref h.objs.size)))).objs.size = h'.objs.size := Heap.size_update ..
    have p1 := hp.add (h' := h') (x := x) (y := y) (fun b o hbb e => k b o (fun q => Nat.not_lt.mpr hbb (hch b q)) e) hb hz (by rw [hl]; exact hxy) hT
    refine ih (i + 1) _ _ (acc.push (.ref h.objs.size)) _ (Ts ++ [h.objs.size]) (by omega) (Z.frame _ _ _ st' keep3) (by rw [Heap.size_update]; show base ≤ h'.objs.size; rw [hz]; exact Nat.le_succ_of_le hb) (Heap.get?_update_self _ hS' rfl) ?_ (by simp [hl]) (p1.last fun b o hbb e => keep3 b o (Nat.ne_of_gt (Nat.lt_of_lt_of_le hSb hbb)) e) fun b o b1 b2 e => keep3 b o b1 (k b o b2 (hk b o b1 b2 e))
    rw [Array.toList_push, ha, List.map_append]
    rfl
/-- list(z), z a zip -/
theorem zl_call {Q : Value → Shared → Prop} (Z : ZIt prog w z s.heap.objs.size ch P n St) (hn : n ≤ sizeLine) (hh : A.handled = none) (st : St 0 s.heap)
    (hQ : ∀ h' tk acc c Ts, (∀ b o, b ∉ ch → s.heap.get? b = some o → h'.get? b = some o) → h'.get? s.heap.objs.size = some (lstObj acc c) → acc.toList = Ts.map Value.ref → Ts.length = n → PrsAt h' (s.heap.objs.size + 1) P Ts → Q (.ref s.heap.objs.size) { s with heap := h', toks := tk }) :
    wpAny (model prog w) A (call (.type "list") [.ref z]) Q E s := by
  refine callType_codes (Q₁ := fun obj s1 => obj = .ref s.heap.objs.size ∧ s1 = { s with heap := s.heap.push { cls := .type "list", data := .seq #[] } }) F.called_list (F.typeCall_list_1 _) F.entry_list_init
    (code_list_new _ ⟨rfl, rfl⟩) fun obj s1 e1 => ?_
  obtain ⟨rfl, rfl⟩ := e1
  have k1 : ∀ b o, b ≠ s.heap.objs.size → s.heap.get? b = some o → (s.heap.push { cls := .type "list", data := .seq #[] }).get? b = some o := fun b o _ e => Heap.get?_push_of_some _ e
  have hS : (s.heap.push { cls := .type "list", data := .seq #[] }).get? s.heap.objs.size = some (lstObj #[] 0) := Heap.get?_push_size _ rfl
  have st1 := Z.frame 0 _ _ st k1
  have hlt := Z.lt 0 _ st
  have hSz : s.heap.objs.size ≠ z := Nat.ne_of_gt (hlt z Z.zin)
  refine ⟨⟨_, hS, rfl⟩, F.args_list_init_2 _ _, ?_⟩
  show wpAny _ A.in1.in1 (Builtin.List.listItems (.ref s.heap.objs.size) >>= fun old => Builtin.List.listUpdate (.ref s.heap.objs.size) (fun _ => #[]) >>= fun _ => letGo old.toList.reverse >>= fun _ => Builtin.List.listExtendWith (.ref s.heap.objs.size) (.ref z) .none) _ _ _
  refine wpAny_bind ?_
  unfold Builtin.List.listItems
  refine wpAny_bind (wpAny_seqItems hS rfl (wpAny_pure (wpAny_bind (?_ : wpAny _ A.in1.in1 (updateSeq s.heap.objs.size fun _ => #[]) _ _ _))))
  refine wpAny_updateSeq hS rfl ?_
  have hS2 := Heap.get?_update_self (Obj.mapSeq (fun _ => (#[] : Array Value))) hS rfl
  have up : ∀ (h : Heap) (f : Obj → Obj) b o, b ≠ s.heap.objs.size → h.get? b = some o → (h.update s.heap.objs.size f).get? b = some o := fun h f b o q e => (Heap.get?_update_other _ _ (Ne.symm q)).trans e
  have st2 := Z.frame 0 _ _ st1 (up _ (Obj.mapSeq (fun _ => (#[] : Array Value))))
  refine wpAny_bind (wpAny_letGo ?_)
  obtain ⟨oz, hoz, hcz⟩ := Z.zip 0 _ st2
  have hty : ({ s with heap := (s.heap.push { cls := .type "list", data := .seq #[] }).update s.heap.objs.size (Obj.mapSeq (fun _ => (#[] : Array Value))) } : Shared).TypeIs (.ref z) "zip" := ⟨oz, hoz, hcz⟩
  unfold Builtin.List.listExtendWith
  refine wpAny_bind (wpAny_typeOf hty ?_)
  have n1 : Builtin.List.listSameRef (.ref s.heap.objs.size) (.ref z) = false := by simp [Builtin.List.listSameRef, hSz]
  simp only [n1, show (Value.type "zip" == Value.type "list") = false by decide, show (Value.type "zip" == Value.type "tuple") = false by decide, Bool.or_false, Bool.false_eq_true, if_false]
  refine wpAny_bind (Z.iter _ 0 _ _ _ st2 (wpAny_bind (wpAny_holding ?_)))
  unfold Builtin.List.listLengthHint
  refine wpAny_bind (wpAny_specialOf hty zip_no_len ?_)
  show wpAny _ _ (specialOf (Value.ref z) (Str.ofString "__length_hint__") >>= _) _ _ _
  refine wpAny_bind (wpAny_specialOf hty zip_no_hint (wpAny_pure ?_))
  show wpAny _ A.in1.in1 (rule "list.extend.makes-room" >>= fun _ => Builtin.List.listTouch (.ref s.heap.objs.size) >>= fun _ => again (.builtin "list.extend.loop" ⟨[.ref s.heap.objs.size, .ref z, .none], []⟩)) _ _ _
  refine wpAny_bind (wpAny_rule (wpAny_bind (?_ : wpAny _ A.in1.in1 (updateSeq s.heap.objs.size (·.push .none) >>= fun _ => updateSeq s.heap.objs.size (·.pop)) _ _ _)))
  refine wpAny_bind (wpAny_updateSeq hS2 rfl ?_)
  have hS3 := Heap.get?_update_self (Obj.mapSeq (·.push Value.none)) hS2 rfl
  have st3 := Z.frame 0 _ _ st2 (up _ (Obj.mapSeq (·.push Value.none)))
  refine wpAny_updateSeq (hz := by seq_fits) hS3 rfl ?_
  have hS4 := Heap.get?_update_self (Obj.mapSeq (·.pop)) hS3 rfl
  have st4 := Z.frame 0 _ _ st3 (up _ (Obj.mapSeq (·.pop)))
  refine wpAny_pure ⟨plainId_quiet F.plain_extend_loop _, ?_⟩
  refine zl_loop (A := A.in1) (s₀ := s) (base := s.heap.objs.size + 1) Z hn hh (fun c hc => Nat.lt_succ_of_lt (hlt c hc)) (Nat.lt_succ_self _) (fun h' tk acc c Ts hk q1 q2 q3 q4 => ⟨rfl, hQ h' tk acc c Ts (fun b o hb e => hk b o (Nat.ne_of_lt (Heap.lt_size e)) hb e) q1 q2 q3 q4⟩)
    n 0 _ _ #[] _ [] (by omega) st4 ?_ hS4 rfl rfl ⟨fun j T e => by simp at e, List.nodup_nil⟩ fun b o hb _ e => up _ _ b o hb (up _ _ b o hb (up _ _ b o hb (k1 b o hb e)))
  rw [Heap.size_update, Heap.size_update, Heap.size_update, Heap.size_push]
  exact Nat.le_refl _
end
/-! ### list(zip(a, b)), an expression -/
def upds (H : Hp) : List (Addr × V × V) → Hp
  | [] => H
  | t :: r => upds (upd H t.1 (.tup [t.2.1, t.2.2])) r
theorem upds_off : ∀ {l : List (Addr × V × V)} {H : Hp} {a : Addr}, a ∉ l.map (·.1) → upds H l a = H a
  | [], _, _, _ => rfl
  | t :: r, H, a, h => by
    simp only [List.map_cons, List.mem_cons, not_or] at h
    rw [upds, upds_off h.2, upd_ne h.1]
theorem upds_at : ∀ {l : List (Addr × V × V)} {H : Hp} {t : Addr × V × V}, (l.map (·.1)).Nodup → t ∈ l → upds H l t.1 = some (.tup [t.2.1, t.2.2])
  | t :: r, H, u, hn, hm => by
    simp only [List.map_cons, List.nodup_cons] at hn
    rcases List.mem_cons.mp hm with rfl | hm
    · rw [upds, upds_off hn.1, upd_same]
    · rw [upds, upds_at hn.2 hm]
/-- new things laid, none of the old changed -/
theorem Inv.many {X : Cx} {pins : List (Addr × Obj)} {σ : L2.St} {H H' : Hp} {s : Shared} {h' : Heap} {t' : Nat} (I : Inv X pins σ H s) (k : ∀ b o, s.heap.get? b = some o → h'.get? b = some o)
    (old : ∀ b, b < s.heap.objs.size → H' b = H b) (new : ∀ b o, s.heap.objs.size ≤ b → H' b = some o → ObjOk X.prog X.w H' h' b o) : Inv X pins σ H' { s with heap := h', toks := t' } := by
  have keep : ∀ b o, H b = some o → H' b = some o := fun b o e => (old b (I.hok.lt e)).trans e
  refine I.un ⟨fun b o e _ _ _ => k b o e, fun b o e _ _ _ => ⟨o.slots, k b o e⟩, fun b o e n _ => (old b (Heap.lt_size e)).trans n, fun b o e _ => ⟨o, k b o e⟩, fun b xs e => keep _ _ e, fun b o u e => keep _ _ e, fun b ps e => ⟨#[], by simpa using keep _ _ e⟩⟩ fun b o e => ?_
  by_cases hb : b < s.heap.objs.size
  · rw [old b hb] at e
    exact (I.hok b o e).stay (fun c u _ q => k c u q) (fun c q => keep _ _ q) fun c xs q => keep _ _ q
  · exact new b o (Nat.not_lt.mp hb) e
/-- the pairs of two rows -/
def prsOf : List V → List V → List (V × V)
  | x :: xs, y :: ys => (x, y) :: prsOf xs ys
  | _, _ => []
def tListZip (K : PySem.W.Frag) (ta : TA) : TE := fun σ H Q => ta σ H fun vs H1 => ∃ a b xs ys, vs = [.ref a, .ref b] ∧ ((SqL K H1 a xs ∧ SqL K H1 b ys) ∨ (SqT K H1 a xs ∧ SqT K H1 b ys)) ∧
  ∀ l : List (Addr × V × V), (l.map (·.1)).Nodup → (∀ a ∈ l.map (·.1), H1 a = none) → l.map (·.2) = prsOf xs ys → ∀ S, upds H1 l S = none → Q (.ref S) (upd (upds H1 l) S (.lst (l.map fun t => .ref t.1)))
theorem vals_prs : ∀ {xs ys : List V} {us ws : List Value}, Vals xs us → Vals ys ws → ∀ (i : Nat) x y, us[i]? = some x → ws[i]? = some y → ∃ p, (prsOf xs ys)[i]? = some p ∧ RelV p.1 x ∧ RelV p.2 y
  | _, _, _, _, .nil, _ => fun i x y e _ => by simp at e
  | _, _, _, _, .cons _ _, .nil => fun i x y _ e => by simp at e
  | _, _, _, _, .cons r rr, .cons q qq => fun i x y e f => by
    cases i with
    | zero => simp at e f; subst e f; exact ⟨_, rfl, r, q⟩
    | succ i => exact vals_prs rr qq i x y e f
theorem vals_refs3 : ∀ (l : List (Addr × V × V)), Vals (l.map fun t => V.ref t.1) (l.map fun t => Value.ref t.1)
  | [] => .nil
  | _ :: r => .cons rfl (vals_refs3 r)
theorem prs_length : ∀ {xs ys : List V}, (prsOf xs ys).length = min xs.length ys.length
  | [], _ => by simp [prsOf]
  | _ :: _, [] => by simp [prsOf]
  | _ :: xs, _ :: ys => by simp [prsOf, prs_length (xs := xs) (ys := ys)]
section
variable {X : Cx} {e e2 : Expr} {ta : TA} {p p2 pos pos2 : Pos}
theorem list_zip_end {pins : List (Addr × Obj)} {σ : L2.St} {H1 : Hp} {s1 : Shared} {its its2 : List Value} {xs ys : List V} {Q : VK} (I1 : Inv X pins σ H1 s1) (rv : Vals xs its) (rv2 : Vals ys its2) (hn : min xs.length ys.length ≤ sizeLine)
    (q : ∀ l : List (Addr × V × V), (l.map (·.1)).Nodup → (∀ a ∈ l.map (·.1), H1 a = none) → l.map (·.2) = prsOf xs ys → ∀ S, upds H1 l S = none → Q (.ref S) (upd (upds H1 l) S (.lst (l.map fun t => .ref t.1))))
    {h' : Heap} {tk : Nat} {acc : Array Value} {c : Nat} {Ts : List Addr} {S : Addr} (hS0 : s1.heap.objs.size ≤ S) (k : ∀ b o, s1.heap.get? b = some o → h'.get? b = some o) (hS : h'.get? S = some (lstObj acc c)) (ha : acc.toList = Ts.map Value.ref) (hl : Ts.length = min xs.length ys.length)
    (hp : PrsAt h' (S + 1) (fun i x y => its[i]? = some x ∧ its2[i]? = some y) Ts) : EP X pins σ Q (.ref S) { s1 with heap := h', toks := tk } := by
  have hlen : (prsOf xs ys).length = Ts.length := by rw [prs_length, hl]
  have m1 : ((Ts.zip (prsOf xs ys)).map (·.1)) = Ts := by
    show (Ts.zip (prsOf xs ys)).map Prod.fst = Ts
    exact List.map_fst_zip (by omega)
  have m2 : ((Ts.zip (prsOf xs ys)).map (·.2)) = prsOf xs ys := by
    show (Ts.zip (prsOf xs ys)).map Prod.snd = _
    exact List.map_snd_zip (by omega)
  have hge : ∀ a ∈ Ts, S + 1 ≤ a := fun a hm => by
    obtain ⟨j, hj⟩ := List.mem_iff_getElem?.mp hm
    exact (hp.1 j a hj).1
  have hSn : S ∉ Ts := fun hm => absurd (hge S hm) (Nat.not_succ_le_self S)
  have fr : ∀ a ∈ (Ts.zip (prsOf xs ys)).map (·.1), H1 a = none := fun a hm => by
    rw [m1] at hm
    exact I1.hok.fresh (Nat.le_trans hS0 (Nat.le_of_succ_le (hge a hm)))
  have uS : upds H1 (Ts.zip (prsOf xs ys)) S = none := by
    rw [upds_off (by rw [m1]; exact hSn)]
    exact I1.hok.fresh hS0
  refine ⟨.ref S, _, ?_, rfl, q (Ts.zip (prsOf xs ys)) (by rw [m1]; exact hp.2) fr m2 S uS⟩
  have nd : ((Ts.zip (prsOf xs ys)).map (·.1)).Nodup := by rw [m1]; exact hp.2
  refine Inv.many I1 k (fun b hb => ?_) fun b o hb e => ?_
  · rw [upd_ne (Nat.ne_of_lt (Nat.lt_of_lt_of_le hb hS0)), upds_off]
    rw [m1]
    exact fun hm => absurd (Nat.le_trans hS0 (Nat.le_of_succ_le (hge b hm))) (Nat.not_le.mpr hb)
  · by_cases hbS : b = S
    · subst hbS
      rw [upd_same] at e
      cases e
      refine ⟨?_, acc.toList, c, ?_, by rw [hS]⟩
      · show ((Ts.zip (prsOf xs ys)).map fun t => V.ref t.1).length ≤ sizeLine
        rw [List.length_map, List.length_zip, hlen, Nat.min_self, hl]
        exact hn
      · have q2 : acc.toList = (Ts.zip (prsOf xs ys)).map fun t => Value.ref t.1 := by
          rw [ha]
          conv => lhs; rw [← m1]
          rw [List.map_map]
          rfl
        rw [q2]
        exact vals_refs3 _
    · rw [upd_ne hbS] at e
      by_cases hbT : b ∈ Ts
      · obtain ⟨j, hj⟩ := List.mem_iff_getElem?.mp hbT
        obtain ⟨_, _, x, y, ⟨ex, ey⟩, hT⟩ := hp.1 j b hj
        obtain ⟨pr, epr, r1, r2⟩ := vals_prs rv rv2 j x y ex ey
        have hm : (b, pr) ∈ Ts.zip (prsOf xs ys) := by
          refine List.mem_iff_getElem?.mpr ⟨j, ?_⟩
          rw [List.getElem?_zip_eq_some]
          exact ⟨hj, epr⟩
        rw [upds_at nd hm] at e
        cases e
        exact ⟨by show 2 ≤ sizeLine; decide, [x, y], .cons r1 (.cons r2 .nil), ⟨_, hT, rfl, _, rfl⟩⟩
      · rw [upds_off (by rw [m1]; exact hbT), I1.hok.fresh hb] at e
        cases e
theorem pe_listZip (hg : Gl X "list") (hm : X.mg "list" = none) (hg2 : Gl X "zip") (hm2 : X.mg "zip" = none) (hc : X.calm = true) (ha : PA X [e, e2] ta)
    (he : starEach [.Call (.Name "zip" p2) [e, e2] [] pos2] X.env = (false, eval (.Call (.Name "zip" p2) [e, e2] [] pos2) X.env) :: starEach [] X.env := by rfl)
    (hs : starEach [e, e2] X.env = (false, eval e X.env) :: starEach [e2] X.env := by rfl) (hpl : (backTo pos2 (starEach [e2] X.env)).any (·.1) = false := by rfl) :
    PE X (.Call (.Name "list" p) [.Call (.Name "zip" p2) [e, e2] [] pos2] [] pos) (tListZip X.K ta) := by
  refine ⟨fun pins s σ H Q I h => ?_⟩
  refine wpAny_Call_Name_kw (ld_blt I hg hm (show bootBuiltins "list" = some (.type "list") by decide +kernel) ?_ (by decide) (by decide))
  refine PyProof.Rows.callWith_type1 ?_ he rfl
  rw [he]
  show wpAny _ _ (spliced ((false, eval _ X.env) :: backTo pos (starEach [] X.env))) _ _ s
  refine Calls.spliced_cons ?_
  refine Call_ (ld_blt I hg2 hm2 PyProof.Rows.boot_zip (PyProof.Rows.callWith_type1 (thn (ha.run pos2 pins s σ H _ I h) fun us s1 ⟨vs, H1, I1, r1, q1⟩ => ?_) hs hpl))
  obtain ⟨a, b, xs, ys, rfl, qk, q⟩ := q1
  cases r1 with
  | cons r rr =>
    cases rr with
    | cons r' rr =>
      cases rr
      cases r
      cases r'
      have S5 : ∀ {h' : Heap}, h'.objs.size = s1.heap.objs.size + 5 → h'.objs.size ∉ [s1.heap.objs.size + 4, s1.heap.objs.size + 2, s1.heap.objs.size + 3, s1.heap.objs.size, s1.heap.objs.size + 1] := fun z => by
        rw [z]
        simp only [List.mem_cons, List.not_mem_nil, or_false, not_or]
        refine ⟨?_, ?_, ?_, ?_, ?_⟩ <;> omega
      have off5 : ∀ b o, s1.heap.get? b = some o → b ∉ [s1.heap.objs.size + 4, s1.heap.objs.size + 2, s1.heap.objs.size + 3, s1.heap.objs.size, s1.heap.objs.size + 1] := fun b o e => by
        have q := Heap.lt_size e
        simp only [List.mem_cons, List.not_mem_nil, or_false, not_or]
        refine ⟨?_, ?_, ?_, ?_, ?_⟩ <;> first | exact Nat.ne_of_lt q | exact Nat.ne_of_lt (Nat.lt_of_lt_of_le q (Nat.le_add_right _ _))
      rcases qk with ⟨hx, hy⟩ | ⟨hx, hy⟩
      · obtain ⟨its, rv, p1, hz1⟩ := I1.list hx
        obtain ⟨its2, rv2, p2, hz2⟩ := I1.list hy
        have hn : min its.toArray.size its2.toArray.size ≤ sizeLine := by rw [List.size_toArray, ← rv.length]; exact Nat.le_trans (Nat.min_le_left _ _) hz1
        refine call_zip_2 p1.isList p2.isList fun h' hz hTI hTO g1 g2 hsz hk => Calls.spliced_nil ?_
        have sz : ∀ {c}, c < s1.heap.objs.size → h'.objs.size ≠ c := fun {c} q => by rw [hsz]; exact Nat.ne_of_gt (Nat.lt_of_lt_of_le q (Nat.le_add_right _ _))
        refine zl_call (s := { s1 with heap := h' }) (zit_list (PySem.W.ktu_apart s1.heap.objs.size a b p1.lt p2.lt) its.toArray its2.toArray (S5 hsz) (sz p1.lt) (sz p2.lt)) hn (I1.ok.hd hc)
          ⟨hTI, g1, g2, p1.isList.at fun o e => hk _ o e, p2.isList.at fun o e => hk _ o e, ⟨_, _, hTO⟩, .inl hz⟩ fun h2 tk acc c Ts q1 q2 q3 q4 q5 => ?_
        refine list_zip_end I1 rv rv2 (by rw [rv.length, rv2.length]; simpa using hn) q (by show s1.heap.objs.size ≤ h'.objs.size; omega) (fun b o e => q1 b o (off5 b o e) (hk b o e)) q2 q3 (by rw [q4, rv.length, rv2.length]; simp) ?_
        simpa using q5
      · obtain ⟨its, rv, p1, hz1⟩ := I1.tuple hx
        obtain ⟨its2, rv2, p2, hz2⟩ := I1.tuple hy
        have hn : min its.toArray.size its2.toArray.size ≤ sizeLine := by rw [List.size_toArray, ← rv.length]; exact Nat.le_trans (Nat.min_le_left _ _) hz1
        have t1 : s1.heap.IsTuple a its.toArray := p1
        have t2 : s1.heap.IsTuple b its2.toArray := p2
        obtain ⟨o1, ho1, _⟩ := id p1
        obtain ⟨o2, ho2, _⟩ := id p2
        have l1 := Heap.lt_size ho1
        have l2 := Heap.lt_size ho2
        refine RZ.call_zipT t1 t2 fun h' hz hTI hTO g1 g2 hsz hk => Calls.spliced_nil ?_
        have sz : ∀ {c}, c < s1.heap.objs.size → h'.objs.size ≠ c := fun {c} q => by rw [hsz]; exact Nat.ne_of_gt (Nat.lt_of_lt_of_le q (Nat.le_add_right _ _))
        refine zl_call (s := { s1 with heap := h' }) (zit_tup (PySem.W.ktu_apart s1.heap.objs.size a b l1 l2) its.toArray its2.toArray (S5 hsz) (sz l1) (sz l2)) hn (I1.ok.hd hc)
          ⟨hTI, g1, g2, t1.at fun o e => hk _ o e, t2.at fun o e => hk _ o e, ⟨_, _, hTO⟩, .inl hz⟩ fun h2 tk acc c Ts q1 q2 q3 q4 q5 => ?_
        refine list_zip_end I1 rv rv2 (by rw [rv.length, rv2.length]; simpa using hn) q (by show s1.heap.objs.size ≤ h'.objs.size; omega) (fun b o e => q1 b o (off5 b o e) (hk b o e)) q2 q3 (by rw [q4, rv.length, rv2.length]; simp) ?_
        simpa using q5
end
section
variable {K : PySem.W.Frag} {A : Wd} {σ : L2.St} {st : S}
theorem upds_sr : ∀ {l : List (Addr × V × V)} {H : Hp} {ds es : List D} {xs ys : List V}, l.map (·.2) = prsOf xs ys → (l.map (·.1)).Nodup → (∀ a ∈ l.map (·.1), H a = none) → SR K A H σ st → RVs K A H xs ds → RVs K A H ys es →
    Stp A H (upds H l) ∧ SR K A (upds H l) σ st ∧ RVs K A (upds H l) (l.map fun t => .ref t.1) (pairD ds es)
  | [], H, ds, es, xs, ys, e, _, _, sr, r1, r2 => by
    refine ⟨Stp.refl A H, sr, ?_⟩
    cases r1 with
    | nil => simp [pairD]; exact .nil
    | cons a b =>
      cases r2 with
      | nil => simp [pairD]; exact .nil
      | cons c d => cases e
  | t :: l, H, ds, es, xs, ys, e, hn, hf, sr, r1, r2 => by
    cases r1 with
    | nil => cases e
    | cons a b =>
      cases r2 with
      | nil => cases e
      | cons c d =>
        simp only [List.map_cons, prsOf, List.cons.injEq] at e
        simp only [List.map_cons, List.nodup_cons] at hn
        have h0 : H t.1 = none := hf _ (List.mem_cons_self ..)
        have sp := stp_new (o := .tup [t.2.1, t.2.2]) h0 sr.dj
        have s2 := sr.newp (o := .tup [t.2.1, t.2.2]) h0 (show 2 ≤ sizeLine by decide)
        have hf2 : ∀ a ∈ l.map (·.1), upd H t.1 (.tup [t.2.1, t.2.2]) a = none := fun a hm => by
          rw [upd_ne (fun z => hn.1 (by rw [← z]; exact hm))]
          exact hf a (List.mem_cons_of_mem _ hm)
        obtain ⟨g1, g2, g3⟩ := upds_sr (l := l) e.2 hn.2 hf2 s2 (b.mono sp.kp) (d.mono sp.kp)
        refine ⟨sp.trans g1, g2, .cons ?_ g3⟩
        refine RV.mono g1.kp (rv_newtup sr h0 ?_)
        rw [e.1]
        exact .cons a (.cons c .nil)
def fListZip (ws : List Vl) (st : S) : R Ob := match ws with
  | [x, y] => (match tupOf x, tupOf y with
    | some ds, some es => .ok (.lst (pairD ds es)) st
    | none, none => (match seqOf x st, seqOf y st with
      | some ds, some es => .ok (.lst (pairD ds es)) st
      | _, _ => .bad)
    | _, _ => .bad)
  | _ => .bad
end
theorem f_listZip {X : Cx} {W : WX} {e e2 : Expr} {ms : S → R (List Vl)} {p p2 pos pos2 : Pos} (hm : X.mg "list" = none) (hm2 : X.mg "zip" = none) (ha : AA X W [e, e2] ms) (hg : Gl X "list" := by rfl) (hg2 : Gl X "zip" := by rfl) (hc : X.calm = true := by rfl)
    (he : starEach [.Call (.Name "zip" p2) [e, e2] [] pos2] X.env = (false, eval (.Call (.Name "zip" p2) [e, e2] [] pos2) X.env) :: starEach [] X.env := by rfl)
    (hs : starEach [e, e2] X.env = (false, eval e X.env) :: starEach [e2] X.env := by rfl) (hpl : (backTo pos2 (starEach [e2] X.env)).any (·.1) = false := by rfl) :
    AF X W (.Call (.Name "list" p) [.Call (.Name "zip" p2) [e, e2] [] pos2] [] pos) (mCallF fListZip ms) :=
  PE.imp (pe_listZip hg hm hg2 hm2 hc ha he hs hpl) fun σ H Q ⟨A, st, sr, q⟩ => ⟨A, st, sr, q.bind.imp fun ws s1 H1 e1 sr1 p1 vs rv => by
    have fin : ∀ {ds es : List D} {xs ys : List V}, RVs X.K A H1 xs ds → RVs X.K A H1 ys es → ds.length ≤ sizeLine → PostX X.K X.mg W A H1 σ (.ok (Ob.lst (pairD ds es)) s1) (fun ob st' H' => ∀ a, H a = none → SR X.K (A.push a) H' σ st' → RO X.K (A.push a) H' a ob → Q (.ref a) H') →
        ∀ l : List (Addr × V × V), (l.map (·.1)).Nodup → (∀ a ∈ l.map (·.1), H1 a = none) → l.map (·.2) = prsOf xs ys → ∀ S, upds H1 l S = none → Q (.ref S) (upd (upds H1 l) S (.lst (l.map fun t => .ref t.1))) := fun {ds es xs ys} r1 r2 hz p1 l hn hf hl S hS => by
      obtain ⟨g1, g2, g3⟩ := upds_sr hl hn hf sr1 r1 r2
      have hz' : hsz (.lst (l.map fun t => V.ref t.1)) ≤ sizeLine := by
        show (l.map fun t => V.ref t.1).length ≤ sizeLine
        rw [g3.length]
        simp only [pairD, List.length_zipWith]
        omega
      have stp2 : Stp A (upds H1 l) (upd (upds H1 l) S (.lst (l.map fun t => .ref t.1))) := stp_new hS g2.dj
      exact p1 _ (g1.trans stp2) (g2.newp hS hz') S (e1.back (g1.back hS)) (g2.new hS hz') (ro_newlst hS g3)
    unfold fListZip at p1
    split at p1
    · obtain ⟨v, u, rfl, rx, ry⟩ := rws2 rv
      split at p1
      · rename_i ds es h1 h2
        obtain ⟨a, xs, rfl, x1, x2⟩ := tupOf_at rx h1
        obtain ⟨b, ys, rfl, y1, y2⟩ := tupOf_at ry h2
        exact ⟨a, b, xs, ys, rfl, .inr ⟨x1, y1⟩, fin x2 y2 (by rw [← x2.length]; exact sq_size sr1 (.inr x1)) p1⟩
      · split at p1
        · rename_i ds es h1 h2
          obtain ⟨a, xs, rfl, x1, x2⟩ := seqOf_at sr1 rx h1
          obtain ⟨b, ys, rfl, y1, y2⟩ := seqOf_at sr1 ry h2
          exact ⟨a, b, xs, ys, rfl, .inl ⟨x1, y1⟩, fin x2 y2 (by rw [← x2.length]; exact sq_size sr1 (.inl x1)) p1⟩
        · exact p1.elim
      · exact p1.elim
    · exact p1.elim⟩
end RA
set_option Elab.async false
set_option linter.all false
set_option maxRecDepth 100000
set_option maxHeartbeats 4000000
namespace RA
open PySem PySem.Spec PyProof.Rows L2

/-! ### sets of texts: made of a list or a tuple, sorted -/
/-- keys of one kind and the values that stand for them -/
structure TK (P : Program) (w : World) (α : Type) [DecidableEq α] where
  knd : KeyKind P w α
  val : α → Tok → Value
  kOf : Value → α
  kOf_mk : ∀ k t, kOf (val k t) = k
  is_mk : ∀ k k' t, knd.is k (val k' t) = true ↔ k' = k
  sc : ∀ k t, (val k t).scannable = true
def tkStr (P : Program) (w : World) : TK P w Str where
  knd := strKind P w
  val k t := .str k t
  kOf v := match v with | .str x _ => x | _ => Str.empty
  kOf_mk _ _ := rfl
  is_mk k k' t := by
    show ((k' == k) = true) ↔ k' = k
    exact beq_iff_eq
  sc _ _ := rfl
def tkInt (P : Program) (w : World) : TK P w Int where
  knd := intKind P w
  val k t := .int k t
  kOf v := match v with | .int x _ => x | _ => 0
  kOf_mk _ _ := rfl
  is_mk k k' t := by
    show ((k' == k) = true) ↔ k' = k
    exact beq_iff_eq
  sc _ _ := rfl
section
variable {P : Program} {w : World} {α : Type} [DecidableEq α] (T : TK P w α)
def TK.good (e : Int × Value) : Prop := ∃ k tk, e.2 = T.val k tk ∧ e.1 = T.knd.hash k
def TK.key (e : Int × Value) : α := T.kOf e.2
/-- the set at a: S its members, n their number; it can be walked -/
def SetX (h : Heap) (a : Addr) (S : α → Bool) (n : Nat) : Prop :=
  ∃ o es ep t, h.get? a = some o ∧ o.ExactSet ∧ o.data = .set es ep t ∧ ((∀ e ∈ es.toList, T.good e) ∧ (es.toList.map T.key).Nodup ∧ ∀ k, S k = true ↔ k ∈ es.toList.map T.key) ∧
    (es.size < scanBound ∧ t.fits es.size = true ∧ es.size = n) ∧ Ris t.place.toList ∧ (w.params.followText "set-order" = true ∨ t.led = true)
variable {T} {h h' : Heap} {a : Addr} {S : α → Bool} {n : Nat}
theorem SetX.at (R : SetX T h a S n) (k : ∀ o, h.get? a = some o → h'.get? a = some o) : SetX T h' a S n :=
  let ⟨o, es, ep, t, ho, r⟩ := R; ⟨o, es, ep, t, k o ho, r⟩
theorem SetX.cast {S' : α → Bool} {m : Nat} (R : SetX T h a S n) (e : ∀ k, S' k = S k) (f : m = n) : SetX T h a S' m := by
  obtain rfl : S' = S := funext e
  rw [f]; exact R
theorem tk_elems {l : List (Int × Value)} (g : ∀ e ∈ l, T.good e) : ElemsOf T.knd l := fun e he => by
  obtain ⟨k, tk, h1, h2⟩ := g e he
  exact ⟨⟨k, by rw [h1]; exact (T.is_mk k k tk).mpr rfl, h2⟩, by rw [h1]; exact T.sc _ _⟩
theorem tk_is {e : Int × Value} (g : T.good e) (k : α) : T.knd.is k e.2 = true ↔ T.key e = k := by
  obtain ⟨k0, tk, h1, _⟩ := g
  unfold TK.key
  rw [h1, T.kOf_mk]
  exact T.is_mk k k0 tk
theorem tk_mem {l : List (Int × Value)} (g : ∀ e ∈ l, T.good e) (k : α) : k ∈ l.map T.key ↔ ∃ e ∈ l, T.knd.is k e.2 = true := by
  simp only [List.mem_map]
  exact ⟨fun ⟨e, he, q⟩ => ⟨e, he, (tk_is (g e he) k).2 q⟩, fun ⟨e, he, q⟩ => ⟨e, he, (tk_is (g e he) k).1 q⟩⟩
end
section
variable {P : Program} {w : World} {α : Type} [DecidableEq α] {T : TK P w α} {A : Around} {E : Value → Shared → Prop} {s : Shared} {a : Addr} {S : α → Bool} {n : Nat}
theorem setX_tail {g : Bool → Sem Unit} (hg : ∀ (b : Bool) (s1 : Shared) (Q' : Unit → Shared → Prop), Q' () s1 → wpAny (model P w) A (g b) Q' E s1)
    {o : Obj} {es : Array (Int × Value)} {ep : Nat} {t : SetTable} (ho : s.heap.get? a = some o) (hex : o.ExactSet) (hd : o.data = .set es ep t)
    {es1 : Array (Int × Value)} {t2 : SetTable} {S' : α → Bool} (g1 : (∀ e ∈ es1.toList, T.good e) ∧ (es1.toList.map T.key).Nodup ∧ ∀ k, S' k = true ↔ k ∈ es1.toList.map T.key)
    (hb1 : es1.size < scanBound) (hf2 : t2.fits es1.size = true) (hr : Ris t2.place.toList) (hl : w.params.followText "set-order" = true ∨ t2.led = true) {wasDummy : Bool} {R : Option Bool → Shared → Prop}
    (hR : ∀ h', Heap.SameBut a s.heap h' → SetX T h' a S' es1.size → R (some true) { s with heap := h' }) :
    wpAny (model P w) A (do
        storeSet a es1 t2
        if (!wasDummy && t2.tooFull) = true then do
            g (relayAll t2 es1 (SetTable.grown es1.size)).2.2
            storeSet a (relayAll t2 es1 (SetTable.grown es1.size)).1 (relayAll t2 es1 (SetTable.grown es1.size)).2.1
            pure (some true)
          else pure (some true)) R E s := by
  refine wpAny_bind (wpAny_storeSet_of ho hd ?_ (fits_of_scanBound hb1))
  have ho1 := store_at (es' := es1) (t' := t2) ho hd
  have sb1 := Heap.SameBut.update s.heap a (Obj.putSet es1 t2)
  split
  · have pm := relayAll_perm t2 es1 (SetTable.grown es1.size)
    have q3 := And.intro (relayAll_fits t2 es1 (SetTable.grown es1.size)) (And.intro (relayAll_ris t2 es1 (SetTable.grown es1.size)) (relayAll_led t2 es1 (SetTable.grown es1.size)))
    generalize relayAll t2 es1 (SetTable.grown es1.size) = Z at pm q3 ⊢
    obtain ⟨es2, t3, gave⟩ := Z
    dsimp only at pm q3 ⊢
    have hsz : es2.size = es1.size := by rw [← Array.length_toList, pm.length_eq, Array.length_toList]
    refine wpAny_bind (hg _ _ _ (wpAny_bind (wpAny_storeSet_of ho1 rfl ?_ (fits_of_scanBound (by rw [hsz]; exact hb1)))))
    have ho2 := store_at (es' := es2) (t' := t3) ho1 rfl
    refine wpAny_pure (hR _ (sb1.trans (Heap.SameBut.update _ a _)) ⟨_, es2, _, t3, ho2, hex, rfl, ⟨fun e he => g1.1 e (pm.mem_iff.mp he), (pm.map T.key).nodup_iff.mpr g1.2.1, fun k => (g1.2.2 k).trans (pm.map T.key).mem_iff.symm⟩, ⟨by rw [hsz]; exact hb1, q3.1, hsz⟩, q3.2.1, hl.imp id fun z => by rw [q3.2.2]; exact z⟩)
  · exact wpAny_pure (hR _ sb1 ⟨_, es1, _, t2, ho1, hex, rfl, g1, ⟨hb1, hf2, rfl⟩, hr, hl⟩)
theorem setX_add {k : α} {tk : Tok} {Q : Bool → Shared → Prop} (R : SetX T s.heap a S n) (room : n + 1 < scanBound)
    (hQ : ∀ h', Heap.SameBut a s.heap h' → SetX T h' a (fun j => S j || decide (j = k)) (if S k = true then n else n + 1) → Q (!S k) { s with heap := h' }) :
    wpAny (model P w) A (setAddHashed a (T.val k tk) (T.knd.hash k)) Q E s := by
  obtain ⟨o, es, ep, t, ho, hex, hd, ⟨g, nd, hm⟩, ⟨hb, hf, hn⟩, hr, hl⟩ := R
  have hkey : T.knd.is k (T.val k tk) = true := (T.is_mk k k tk).mpr rfl
  have hsc := T.sc k tk
  have hel : ElemsOf T.knd es.toList := tk_elems g
  unfold setAddHashed setAddHashedIn
  refine wpAny_holding (wpAny_bind (wpAny_setState_of ho hd hf ?_))
  dsimp only
  rw [byScan_of hsc hb hel]
  simp only [↓reduceIte]
  unfold setAddByScan
  refine wpAny_bind (wpAny_bind (wpAny_rule (wpAny_bind (wpAny_setScan_of hkey ho hd hf hel ?_))))
  cases hfi : List.findIdx? (fun e => T.knd.is k e.2) es.toList with
  | some j =>
    dsimp only
    obtain ⟨hj, pj, _⟩ := List.findIdx?_eq_some_iff_getElem.mp hfi
    have hSk : S k = true := (hm k).2 ((tk_mem g k).2 ⟨es.toList[j], List.getElem_mem hj, pj⟩)
    refine wpAny_pure (wpAny_pure ?_)
    have q := hQ s.heap (Heap.SameBut.refl a s.heap) ⟨o, es, ep, t, ho, hex, hd, ⟨g, nd, fun i => by
      rw [Bool.or_eq_true, decide_eq_true_eq, ← hm i]
      exact ⟨fun z => z.elim id (fun e => e ▸ hSk), .inl⟩⟩, ⟨hb, hf, by rw [if_pos hSk]; exact hn⟩, hr, hl⟩
    rw [hSk] at q
    exact q
  | none =>
    dsimp only
    have hnk : k ∉ es.toList.map T.key := fun z => by
      obtain ⟨e, he, q⟩ := (tk_mem g k).1 z
      have c := List.findIdx?_eq_none_iff.mp hfi e he
      rw [q] at c
      cases c
    have hSk : S k = false := Bool.eq_false_iff.mpr fun q => hnk ((hm k).1 q)
    have hgw : ∀ (b : Bool) {s1 : Shared} {Q' : Unit → Shared → Prop}, Q' () s1 → wpAny (model P w) A (match b with | true => rule "set.scan.the-table-gave-way" | false => pure ()) Q' E s1 :=
      fun b s1 Q' q => by cases b <;> first | exact wpAny_pure q | exact wpAny_rule q
    have pm := layNew_perm t es (T.knd.hash k) (T.val k tk)
    have q1 := And.intro (layNew_fits t es (T.knd.hash k) (T.val k tk)) (And.intro (layNew_ris t es (T.knd.hash k) (T.val k tk) hr) (layNew_led t es (T.knd.hash k) (T.val k tk)))
    generalize layNew t es (T.knd.hash k) (T.val k tk) = Z at pm q1 ⊢
    obtain ⟨es1, t1, wasDummy, gave⟩ := Z
    dsimp only at pm q1 ⊢
    rw [Array.toList_push] at pm
    have pc : es1.toList.Perm ((T.knd.hash k, T.val k tk) :: es.toList) := pm.trans (List.perm_append_singleton _ _)
    have pk : (es1.toList.map T.key).Perm (k :: es.toList.map T.key) := by
      have q := pc.map T.key
      rw [List.map_cons, show T.key (T.knd.hash k, T.val k tk) = k from T.kOf_mk k tk] at q
      exact q
    have g1 : (∀ e ∈ es1.toList, T.good e) ∧ (es1.toList.map T.key).Nodup ∧ ∀ i, (S i || decide (i = k)) = true ↔ i ∈ es1.toList.map T.key := by
      refine ⟨fun e he => ?_, pk.nodup_iff.mpr (List.nodup_cons.mpr ⟨hnk, nd⟩), fun i => ?_⟩
      · rcases List.mem_cons.mp (pc.mem_iff.mp he) with z | z
        · rw [z]; exact ⟨k, tk, rfl, rfl⟩
        · exact g e z
      · rw [Bool.or_eq_true, decide_eq_true_eq, hm i, pk.mem_iff, List.mem_cons]
        exact Or.comm
    have hsz : es1.size = n + 1 := by rw [← Array.length_toList, pc.length_eq, List.length_cons, Array.length_toList, hn]
    have hb1 : es1.size < scanBound := by rw [hsz]; exact room
    have hled : w.params.followText "set-order" = true ∨ t1.led = true := hl.imp id fun z => by rw [q1.2.2]; exact z
    have fin : ∀ h', Heap.SameBut a s.heap h' → SetX T h' a (fun j => S j || decide (j = k)) es1.size → Q true { s with heap := h' } := fun h' sb r => by
      have q := hQ h' sb
      rw [hSk] at q
      rw [hsz] at r
      exact q r
    refine wpAny_bind (hgw _ ?_)
    split
    · refine wpAny_bind ?_
      rw [hashByValue_scannable 8 hsc]
      refine wpAny_pure ?_
      refine setX_tail ?_ ho hex hd g1 hb1 ?_ ?_ ?_ ?_
      · intro b s1 Q' q; cases b <;> first | exact wpAny_pure q | exact wpAny_rule q
      · first | (split <;> first | exact q1.1 | exact SetTable.fits_plain_off q1.1) | exact q1.1
      · first | (split <;> exact q1.2.1) | exact q1.2.1
      · first | (split <;> exact hled) | exact hled
      · intro h' sb r; dsimp only; exact wpAny_pure (fin h' sb r)
    · refine wpAny_bind (wpAny_pure ?_)
      simp only [↓reduceIte]
      refine setX_tail ?_ ho hex hd g1 hb1 q1.1 q1.2.1 hled ?_
      · intro b s1 Q' q; cases b <;> first | exact wpAny_pure q | exact wpAny_rule q
      · intro h' sb r; dsimp only; exact wpAny_pure (fin h' sb r)
theorem setX_fresh {h : Heap} : SetX T (h.push { cls := .type "set", dict := none, data := .set #[] 0 (.fresh 0 0 (!w.params.followText "set-order")) }) h.objs.size (fun _ => false) 0 := by
  refine ⟨_, #[], 0, _, Heap.get?_push_size _ rfl, ⟨rfl, rfl, rfl⟩, rfl, ⟨fun e he => by simp at he, by simp, fun k => by simp⟩, ⟨by decide, rfl, rfl⟩, List.Pairwise.nil, ?_⟩
  show _ ∨ (!w.params.followText "set-order") = true
  cases w.params.followText "set-order"
  · exact .inr rfl
  · exact .inl rfl
/-- set.update.loop over keys of the kind -/
theorem setX_loop {R : Result → Shared → Prop} {I : Addr} {fp wr : List Addr} {m : Nat} {V : Nat → Value → Prop} {St : Nat → Heap → Prop} (W : Walks P w A.in1 I fp wr m V St) (hSf : a ∉ fp) (xs : List α) (hm : xs.length = m) (hm2 : m + 1 < scanBound)
    (hval : ∀ i v, V i v → ∃ k tk, v = T.val k tk ∧ xs[i]? = some k) :
    ∀ (d i : Nat) (s : Shared) (c : Nat), m - i = d → i ≤ m → St i s.heap → c ≤ i → SetX T s.heap a (fun k => decide (k ∈ xs.take i)) c →
      (∀ h' tk c', (∀ b o, b ≠ a → b ∉ wr → s.heap.get? b = some o → h'.get? b = some o) → c' ≤ m → SetX T h' a (fun k => decide (k ∈ xs)) c' → R (.ok (.ret .none)) { s with heap := h', toks := tk }) →
      codeAny (model P w) A (.builtin "set.update.loop" ⟨[.ref a, .ref I], []⟩) R s := by
  have hSw : a ∉ wr := fun h => hSf (W.sub _ h)
  intro d
  induction d with
  | zero =>
    intro i s c hd hi st hc hS hR
    obtain rfl : i = m := by omega
    refine codeAny_builtin F.entry_set_update_loop ?_
    rw [Around.under_plainId F.plain_set_update_loop _]
    show wpAny _ A.in1 (pyNext (.ref I) >>= _) _ _ s
    refine wpAny_bind (W.done s _ _ st fun h' tk hk => ?_)
    show wpAny _ A.in1 (ret Value.none) _ _ _
    refine wpAny_pure (hR h' tk c (fun b o _ hb e => hk b o hb e) hc ((hS.at fun o e => hk a o hSw e).cast (fun k => ?_) rfl))
    rw [List.take_of_length_le (Nat.le_of_eq hm)]
  | succ d ih =>
    intro i s c hd hi st hc hS hR
    have hlt : i < m := by omega
    refine codeAny_builtin F.entry_set_update_loop ?_
    rw [Around.under_plainId F.plain_set_update_loop _]
    show wpAny _ A.in1 (pyNext (.ref I) >>= _) _ _ s
    refine wpAny_bind (W.item i s _ _ hlt st fun v h' tk hP hst' hk => ?_)
    obtain ⟨k, t, rfl, hxk⟩ := hval i v hP
    have hS' : SetX T h' a (fun k => decide (k ∈ xs.take i)) c := hS.at fun o e => hk a o hSw e
    show wpAny _ A.in1 (holding [T.val k t] (setAdd a (T.val k t)) >>= _) _ _ _
    refine wpAny_bind (wpAny_holding ?_)
    unfold setAdd
    refine wpAny_holding (wpAny_bind (T.knd.pyHash (k := k) ((T.is_mk k k t).mpr rfl) ?_))
    refine setX_add (s := { s with heap := h', toks := tk + 1 }) (k := k) hS' (by omega) fun h2 hsb hS2 => ?_
    refine wpAny_pure ⟨plainId_quiet F.plain_set_update_loop _, ih (i + 1) _ _ (by omega) hlt (W.frame _ h' _ hst' fun b hb o e => ?_) ?_ (hS2.cast (fun k' => ?_) rfl) fun h3 tk3 c3 hk3 hc3 hS3 => ?_⟩
    · rw [hsb.2 b (fun z => hSf (z ▸ hb))]; exact e
    · split <;> omega
    · rw [List.take_succ, hxk]
      simp only [Option.toList_some, List.mem_append, List.mem_singleton, Bool.decide_or]
    · exact hR h3 tk3 c3 (fun b o b1 b2 e => hk3 b o b1 b2 (by rw [hsb.2 b b1]; exact hk b o b2 e)) hc3 hS3
end
section
variable {P : Program} {w : World} {A : Around} {E : Value → Shared → Prop} {s : Shared}
theorem code_setX (a : Value) {Q1 : Value → Shared → Prop} (h : Q1 (.ref s.heap.objs.size) { s with heap := s.heap.push { cls := .type "set", dict := none, data := .set #[] 0 (.fresh 0 0 (!w.params.followText "set-order")) } }) :
    codeAny (model P w) A (.call (.builtin "set.__new__") ⟨[.type "set", a], []⟩) (wants Q1 E) s := by
  refine codeAny_of_tree ?_
  show wpAny _ A.in1 (checkBuiltinCall "set.__new__" ⟨[.type "set", a], []⟩ >>= fun _ => again (.builtin "set.__new__" ⟨[.type "set", a], []⟩)) _ _ s
  refine wpAny_bind (wpAny_of_eq (F.newCall_set_1 a) (wpAny_pure ⟨plainId_quiet F.plain_set_new _, codeAny_builtin F.entry_set_new ?_⟩))
  rw [Around.under_plainId F.plain_set_new _]
  unfold Builtin.«set.__new__» Builtin.Frozenset.newClass
  have hsub := sub_set_self
  obtain ⟨hp, g, d, tk, os⟩ := s
  dsimp only
  wp_walk
  refine wpAny_askSetting (wpAny_pure ?_)
  dsimp only
  simp only [newObj]
  exact wpAny_bind (wpAny_alloc (wpAny_pure (wpAny_pure h)))
end
section
variable {P : Program} {w : World} {α : Type} [DecidableEq α] {T : TK P w α} {A : Around} {E : Value → Shared → Prop} {s : Shared}
set_option maxHeartbeats 8000000 in
theorem call_setX_list {l : Addr} {items : Array Value} {xs : List α} {Q : Value → Shared → Prop} (hh : A.handled = none) (hl : s.heap.IsList l items) (hx : xs.length = items.size) (hm2 : items.size + 1 < scanBound)
    (hval : ∀ (i : Nat) v, items[i]? = some v → ∃ k tk, v = T.val k tk ∧ xs[i]? = some k)
    (h : ∀ (h' : Heap) (tk c : Nat), (∀ b o, b < s.heap.objs.size → s.heap.get? b = some o → h'.get? b = some o) → c ≤ items.size → SetX T h' s.heap.objs.size (fun k => decide (k ∈ xs)) c → Q (.ref s.heap.objs.size) { s with heap := h', toks := tk }) :
    wpAny (model P w) A (call (.type "set") [.ref l]) Q E s := by
  obtain ⟨c, tl, hmro⟩ := F.called_set.mro
  have hmade := F.called_set.made
  have hsub := F.called_set.sub
  refine wpAny_call (codeAny_of_tree ?_)
  show wpAny _ _ (callAny (.type "set") _) _ _ _
  refine wpAny_pure ⟨Code.quiet_builtin _ (by decide +kernel), codeAny_builtin F.entry_type_call ?_⟩
  rw [Around.under_plain (weight_type_call_type "set" [.ref l] []) rfl]
  have h1 := F.called_set.notType
  have h2 := F.called_set.canCreate
  have hct := F.typeCall_set_1 (.ref l)
  repeat (any_goals (first | assumption | wp_step))
  refine codeAny_mono (code_setX (.ref l) (E := E) (Q1 := fun obj s1 => obj = .ref s.heap.objs.size ∧ s1 = { s with heap := s.heap.push { cls := .type "set", dict := none, data := .set #[] 0 (.fresh 0 0 (!w.params.followText "set-order")) } }) ⟨rfl, rfl⟩) fun r s1 hr => ?_
  have hfresh := setX_fresh (T := T) (h := s.heap)
  generalize (!w.params.followText "set-order") = led at hr hfresh
  cases r with
  | error e => exact hr
  | ok fl =>
    cases fl with
    | ret obj =>
      obtain ⟨rfl, rfl⟩ := hr
      have hS : (s.heap.push { cls := .type "set", dict := none, data := .set #[] 0 (.fresh 0 0 led) }).get? s.heap.objs.size = some { cls := .type "set", dict := none, data := .set #[] 0 (.fresh 0 0 led) } := Heap.get?_push_size _ rfl
      have hT : Shared.TypeIs { s with heap := s.heap.push { cls := .type "set", dict := none, data := .set #[] 0 (.fresh 0 0 led) } } (.ref s.heap.objs.size) "set" := ⟨_, hS, rfl⟩
      have hli := F.called_set.init.lookup
      have hbi := F.called_set.init.bind (.ref s.heap.objs.size)
      repeat (any_goals (first | assumption | wp_step))
      refine codeAny_mono (codeAny_call_builtin (R := wants (fun r s2 => r = .none ∧ ∃ h' tk c, s2 = { s with heap := h', toks := tk } ∧ (∀ b o, b < s.heap.objs.size → s.heap.get? b = some o → h'.get? b = some o) ∧ c ≤ items.size ∧
          SetX T h' s.heap.objs.size (fun k => decide (k ∈ xs)) c) E) F.called_set.init.plain F.entry_set_init (check_set_init_1 hT ?_)) fun r2 s2 hr2 => ?_
      · obtain ⟨ol, hol, hcl, nl, hdl⟩ := hl
        obtain ⟨ocls, odict, odata, oslots⟩ := ol
        simp only at hcl hdl
        subst hcl; subst hdl
        have hol' : (s.heap.push { cls := .type "set", dict := none, data := .set #[] 0 (.fresh 0 0 led) }).get? l = some { cls := .type "list", dict := odict, data := .seq items nl, slots := oslots } := Heap.get?_push_of_some _ hol
        have hsls := F.sub_list_set
        have hslf := F.sub_list_frozenset
        have hne : (Value.type "list" == Value.type "dict") = false := by decide
        have hl1 : (s.heap.push { cls := .type "set", dict := none, data := .set #[] 0 (.fresh 0 0 led) }).IsList l items := ⟨_, hol', rfl, nl, rfl⟩
        unfold Builtin.«set.__init__» noKeywords Builtin.Frozenset.updateFrom
        generalize hPI : pyIter = PI
        wp_walk
        subst hPI
        refine wpAny_pyIter_list hl1 ?_
        refine wpAny_bind (wpAny_runValue ?_)
        have hlS : l < s.heap.objs.size := Heap.lt_size hol
        have hneI : l ≠ (s.heap.push { cls := .type "set", dict := none, data := .set #[] 0 (.fresh 0 0 led) }).objs.size := by
          rw [Heap.size_push]; exact Nat.ne_of_lt (Nat.lt_succ_of_lt hlS)
        have hSf : s.heap.objs.size ∉ [(s.heap.push { cls := .type "set", dict := none, data := .set #[] 0 (.fresh 0 0 led) }).objs.size, l] := by
          rw [Heap.size_push]
          simp only [List.mem_cons, List.not_mem_nil, or_false, not_or]
          exact ⟨Nat.ne_of_lt (Nat.lt_succ_self _), Nat.ne_of_gt hlS⟩
        have hh3 : A.in1.in1.in1.handled = none := by simp [hh]
        refine setX_loop (T := T) (Walks.list hh3 _ l hneI items) hSf xs hx hm2 hval (items.size - 0) 0 _ 0 (by omega) (Nat.zero_le _) ⟨⟨_, Heap.get?_push_size _ rfl, rfl, rfl⟩, hl1.push _⟩ (Nat.le_refl _) ?_ ?_
        · exact (hfresh.at fun o e => Heap.get?_push_of_some _ e).cast (fun k => by simp) rfl
        · intro h' tk c hk hc hS'
          refine wpAny_pure (wpAny_pure ⟨rfl, h', tk, c, rfl, fun b o hb e => ?_, hc, hS'⟩)
          have hb1 : b ≠ s.heap.objs.size := Nat.ne_of_lt hb
          have hb2 : b ≠ (s.heap.push { cls := .type "set", dict := none, data := .set #[] 0 (.fresh 0 0 led) }).objs.size := by
            rw [Heap.size_push]; exact Nat.ne_of_lt (Nat.lt_succ_of_lt hb)
          exact hk b o hb1 (by simpa using hb2) (Heap.get?_push_of_some _ (Heap.get?_push_of_some _ e))
      · cases r2 with
        | error e => exact hr2
        | ok fl2 =>
          cases fl2 with
          | ret r =>
            obtain ⟨rfl, h', tk, c, rfl, hk', hc, hS'⟩ := hr2
            repeat (any_goals (first | assumption | wp_step))
            exact h _ _ c hk' hc hS'
          | _ => exact hr2.elim
    | _ => exact hr.elim
set_option maxHeartbeats 8000000 in
theorem call_setX_tup {l : Addr} {items : Array Value} {xs : List α} {Q : Value → Shared → Prop} (hh : A.handled = none) (hl : s.heap.IsTuple l items) (hx : xs.length = items.size) (hm2 : items.size + 1 < scanBound)
    (hval : ∀ (i : Nat) v, items[i]? = some v → ∃ k tk, v = T.val k tk ∧ xs[i]? = some k)
    (h : ∀ (h' : Heap) (tk c : Nat), (∀ b o, b < s.heap.objs.size → s.heap.get? b = some o → h'.get? b = some o) → c ≤ items.size → SetX T h' s.heap.objs.size (fun k => decide (k ∈ xs)) c → Q (.ref s.heap.objs.size) { s with heap := h', toks := tk }) :
    wpAny (model P w) A (call (.type "set") [.ref l]) Q E s := by
  obtain ⟨c, tl, hmro⟩ := F.called_set.mro
  have hmade := F.called_set.made
  have hsub := F.called_set.sub
  refine wpAny_call (codeAny_of_tree ?_)
  show wpAny _ _ (callAny (.type "set") _) _ _ _
  refine wpAny_pure ⟨Code.quiet_builtin _ (by decide +kernel), codeAny_builtin F.entry_type_call ?_⟩
  rw [Around.under_plain (weight_type_call_type "set" [.ref l] []) rfl]
  have h1 := F.called_set.notType
  have h2 := F.called_set.canCreate
  have hct := F.typeCall_set_1 (.ref l)
  repeat (any_goals (first | assumption | wp_step))
  refine codeAny_mono (code_setX (.ref l) (E := E) (Q1 := fun obj s1 => obj = .ref s.heap.objs.size ∧ s1 = { s with heap := s.heap.push { cls := .type "set", dict := none, data := .set #[] 0 (.fresh 0 0 (!w.params.followText "set-order")) } }) ⟨rfl, rfl⟩) fun r s1 hr => ?_
  have hfresh := setX_fresh (T := T) (h := s.heap)
  generalize (!w.params.followText "set-order") = led at hr hfresh
  cases r with
  | error e => exact hr
  | ok fl =>
    cases fl with
    | ret obj =>
      obtain ⟨rfl, rfl⟩ := hr
      have hS : (s.heap.push { cls := .type "set", dict := none, data := .set #[] 0 (.fresh 0 0 led) }).get? s.heap.objs.size = some { cls := .type "set", dict := none, data := .set #[] 0 (.fresh 0 0 led) } := Heap.get?_push_size _ rfl
      have hT : Shared.TypeIs { s with heap := s.heap.push { cls := .type "set", dict := none, data := .set #[] 0 (.fresh 0 0 led) } } (.ref s.heap.objs.size) "set" := ⟨_, hS, rfl⟩
      have hli := F.called_set.init.lookup
      have hbi := F.called_set.init.bind (.ref s.heap.objs.size)
      repeat (any_goals (first | assumption | wp_step))
      refine codeAny_mono (codeAny_call_builtin (R := wants (fun r s2 => r = .none ∧ ∃ h' tk c, s2 = { s with heap := h', toks := tk } ∧ (∀ b o, b < s.heap.objs.size → s.heap.get? b = some o → h'.get? b = some o) ∧ c ≤ items.size ∧
          SetX T h' s.heap.objs.size (fun k => decide (k ∈ xs)) c) E) F.called_set.init.plain F.entry_set_init (check_set_init_1 hT ?_)) fun r2 s2 hr2 => ?_
      · obtain ⟨ol, hol, hcl, nl, hdl⟩ := hl
        obtain ⟨ocls, odict, odata, oslots⟩ := ol
        simp only at hcl hdl
        subst hcl; subst hdl
        have hol' : (s.heap.push { cls := .type "set", dict := none, data := .set #[] 0 (.fresh 0 0 led) }).get? l = some { cls := .type "tuple", dict := odict, data := .seq items nl, slots := oslots } := Heap.get?_push_of_some _ hol
        have hsls := F.sub_tuple_set
        have hslf := F.sub_tuple_frozenset
        have hne : (Value.type "tuple" == Value.type "dict") = false := by decide
        have hl1 : (s.heap.push { cls := .type "set", dict := none, data := .set #[] 0 (.fresh 0 0 led) }).IsTuple l items := ⟨_, hol', rfl, nl, rfl⟩
        unfold Builtin.«set.__init__» noKeywords Builtin.Frozenset.updateFrom
        generalize hPI : pyIter = PI
        wp_walk
        subst hPI
        refine wpAny_pyIter_tuple hl1 ?_
        refine wpAny_bind (wpAny_runValue ?_)
        have hlS : l < s.heap.objs.size := Heap.lt_size hol
        have hneI : l ≠ (s.heap.push { cls := .type "set", dict := none, data := .set #[] 0 (.fresh 0 0 led) }).objs.size := by
          rw [Heap.size_push]; exact Nat.ne_of_lt (Nat.lt_succ_of_lt hlS)
        have hSf : s.heap.objs.size ∉ [(s.heap.push { cls := .type "set", dict := none, data := .set #[] 0 (.fresh 0 0 led) }).objs.size, l] := by
          rw [Heap.size_push]
          simp only [List.mem_cons, List.not_mem_nil, or_false, not_or]
          exact ⟨Nat.ne_of_lt (Nat.lt_succ_self _), Nat.ne_of_gt hlS⟩
        have hh3 : A.in1.in1.in1.handled = none := by simp [hh]
        refine setX_loop (T := T) (Walks.tuple hh3 _ l hneI items) hSf xs hx hm2 hval (items.size - 0) 0 _ 0 (by omega) (Nat.zero_le _) ⟨⟨_, Heap.get?_push_size _ rfl, rfl, rfl⟩, hl1.push _⟩ (Nat.le_refl _) ?_ ?_
        · exact (hfresh.at fun o e => Heap.get?_push_of_some _ e).cast (fun k => by simp) rfl
        · intro h' tk c hk hc hS'
          refine wpAny_pure (wpAny_pure ⟨rfl, h', tk, c, rfl, fun b o hb e => ?_, hc, hS'⟩)
          have hb1 : b ≠ s.heap.objs.size := Nat.ne_of_lt hb
          have hb2 : b ≠ (s.heap.push { cls := .type "set", dict := none, data := .set #[] 0 (.fresh 0 0 led) }).objs.size := by
            rw [Heap.size_push]; exact Nat.ne_of_lt (Nat.lt_succ_of_lt hb)
          exact hk b o hb1 (by simpa using hb2) (Heap.get?_push_of_some _ (Heap.get?_push_of_some _ e))
      · cases r2 with
        | error e => exact hr2
        | ok fl2 =>
          cases fl2 with
          | ret r =>
            obtain ⟨rfl, h', tk, c, rfl, hk', hc, hS'⟩ := hr2
            repeat (any_goals (first | assumption | wp_step))
            exact h _ _ c hk' hc hS'
          | _ => exact hr2.elim
    | _ => exact hr.elim
end
end RA
set_option Elab.async false
set_option linter.all false
set_option maxRecDepth 100000
set_option maxHeartbeats 4000000
namespace RA
open PySem PySem.Spec PyProof.Rows L2

/-! ### sorting, in plain lists -/
structure LOrd {α : Type} (lt : α → α → Bool) : Prop where
  irr : ∀ a, lt a a = false
  tr : ∀ a b c, lt a b = true → lt b c = true → lt a c = true
  tot : ∀ a b, lt a b = false → lt b a = false → a = b
section
variable {α : Type} {lt : α → α → Bool}
theorem LOrd.asym (O : LOrd lt) {a b : α} (h : lt a b = true) : lt b a = false := by
  cases q : lt b a with
  | false => rfl
  | true => have := O.tr _ _ _ h q; rw [O.irr] at this; cases this
/-- not greater, a chain -/
theorem LOrd.le_tr (O : LOrd lt) {a b c : α} (h : lt b a = false) (g : lt c b = false) : lt c a = false := by
  cases q : lt c a with
  | false => rfl
  | true =>
    cases ab : lt a b with
    | true => have := O.tr _ _ _ q ab; rw [g] at this; cases this
    | false => have := O.tot _ _ h ab; subst this; rw [q] at g; cases g
def insL (lt : α → α → Bool) (x : α) : List α → List α
  | [] => [x]
  | y :: r => if lt y x = true then y :: insL lt x r else x :: y :: r
def sortL (lt : α → α → Bool) (xs : List α) : List α := xs.foldr (insL lt) []
def Asc (lt : α → α → Bool) (xs : List α) : Prop := xs.Pairwise fun a b => lt b a = false
theorem insL_perm (x : α) : ∀ l : List α, (insL lt x l).Perm (x :: l)
  | [] => .refl _
  | y :: r => by
    unfold insL
    split
    · exact ((insL_perm x r).cons y).trans (.swap x y r)
    · exact .refl _
theorem sortL_perm : ∀ xs : List α, (sortL lt xs).Perm xs
  | [] => .refl _
  | x :: r => (insL_perm x _).trans ((sortL_perm r).cons x)
theorem insL_asc (O : LOrd lt) (x : α) : ∀ l : List α, Asc lt l → Asc lt (insL lt x l)
  | [], _ => List.pairwise_singleton ..
  | y :: r, h => by
    obtain ⟨h1, h2⟩ := List.pairwise_cons.mp h
    unfold insL
    split
    · rename_i hy
      refine List.pairwise_cons.mpr ⟨fun z hz => ?_, insL_asc O x r h2⟩
      rcases List.mem_cons.mp ((insL_perm x r).mem_iff.mp hz) with rfl | hz
      · exact O.asym hy
      · exact h1 z hz
    · rename_i hy
      have hy : lt y x = false := Bool.eq_false_iff.mpr hy
      refine List.pairwise_cons.mpr ⟨fun z hz => ?_, h⟩
      rcases List.mem_cons.mp hz with rfl | hz
      · exact hy
      · exact O.le_tr hy (h1 z hz)
theorem sortL_asc (O : LOrd lt) : ∀ xs : List α, Asc lt (sortL lt xs)
  | [] => List.Pairwise.nil
  | x :: r => insL_asc O x _ (sortL_asc O r)
theorem asc_eq (O : LOrd lt) : ∀ {xs ys : List α}, Asc lt xs → Asc lt ys → xs.Perm ys → xs = ys
  | [], ys, _, _, p => p.nil_eq
  | x :: xs, [], _, _, p => by cases p.symm.nil_eq
  | x :: xs, y :: ys, h, g, p => by
    obtain ⟨h1, h2⟩ := List.pairwise_cons.mp h
    obtain ⟨g1, g2⟩ := List.pairwise_cons.mp g
    have exy : x = y := by
      have m1 : x ∈ y :: ys := p.mem_iff.mp (List.mem_cons_self ..)
      have m2 : y ∈ x :: xs := p.mem_iff.mpr (List.mem_cons_self ..)
      rcases List.mem_cons.mp m1 with e | m1
      · exact e
      · rcases List.mem_cons.mp m2 with e | m2
        · exact e.symm
        · exact O.tot _ _ (g1 x m1 |> fun q => q) (h1 y m2)
    subst exy
    rw [asc_eq O h2 g2 (p.cons_inv)]
theorem asc_sortL (O : LOrd lt) {xs ys : List α} (h : Asc lt ys) (p : ys.Perm xs) : ys = sortL lt xs := asc_eq O h (sortL_asc O xs) (p.trans (sortL_perm xs).symm)
theorem sortL_of_asc (O : LOrd lt) {xs : List α} (h : Asc lt xs) : sortL lt xs = xs := (asc_sortL O h (.refl _)).symm
def nubL [DecidableEq α] : List α → List α
  | [] => []
  | x :: r => if x ∈ nubL r then nubL r else x :: nubL r
theorem nub_mem [DecidableEq α] : ∀ {xs : List α} {x : α}, x ∈ nubL xs ↔ x ∈ xs
  | [], x => by simp [nubL]
  | y :: r, x => by
    unfold nubL
    split
    · rename_i h
      rw [nub_mem, List.mem_cons]
      exact ⟨.inr, fun q => q.elim (fun e => e ▸ nub_mem.mp h) id⟩
    · rw [List.mem_cons, List.mem_cons, nub_mem]
theorem nub_nodup [DecidableEq α] : ∀ xs : List α, (nubL xs).Nodup
  | [] => List.nodup_nil
  | y :: r => by
    unfold nubL
    split
    · exact nub_nodup r
    · rename_i h; exact List.nodup_cons.mpr ⟨h, nub_nodup r⟩
theorem perm_nodup [DecidableEq α] : ∀ {xs ys : List α}, xs.Nodup → ys.Nodup → (∀ x, x ∈ xs ↔ x ∈ ys) → xs.Perm ys := fun {xs ys} h g m => by
  refine List.perm_iff_count.mpr fun a => ?_
  rw [h.count, g.count]
  simp only [m a]
/-- sorted(set(xs)) -/
def setL [DecidableEq α] (lt : α → α → Bool) (xs : List α) : List α := sortL lt (nubL xs)
theorem setL_eq [DecidableEq α] (O : LOrd lt) {xs ys : List α} (h : Asc lt ys) (d : ys.Nodup) (m : ∀ x, x ∈ ys ↔ x ∈ xs) : ys = setL lt xs :=
  asc_sortL O h (perm_nodup d (nub_nodup xs) fun x => (m x).trans nub_mem.symm)
theorem setL_mem [DecidableEq α] {xs : List α} {x : α} : x ∈ setL lt xs ↔ x ∈ xs := ((sortL_perm _).mem_iff).trans nub_mem
theorem setL_nodup [DecidableEq α] (xs : List α) : (setL lt xs).Nodup := (sortL_perm _).nodup_iff.mpr (nub_nodup xs)
theorem setL_asc [DecidableEq α] (O : LOrd lt) (xs : List α) : Asc lt (setL lt xs) := sortL_asc O _
end
def ltS (a b : Str) : Bool := ltCps a.cps.toList b.cps.toList
theorem cps_irr : ∀ a : List Nat, ltCps a a = false
  | [] => rfl
  | a :: r => by simp [ltCps, cps_irr r]
theorem cps_tr : ∀ a b c : List Nat, ltCps a b = true → ltCps b c = true → ltCps a c = true
  | [], [], _, h, _ => by cases h
  | [], _ :: _, [], _, g => by cases g
  | [], _ :: _, _ :: _, _, _ => rfl
  | _ :: _, [], _, h, _ => by cases h
  | _ :: _, _ :: _, [], _, g => by cases g
  | a :: r, b :: s, c :: t, h, g => by
    simp only [ltCps, Bool.or_eq_true, decide_eq_true_eq, Bool.and_eq_true, beq_iff_eq] at h g ⊢
    rcases h with h | ⟨rfl, h⟩
    · rcases g with g | ⟨rfl, g⟩
      · exact .inl (by omega)
      · exact .inl h
    · rcases g with g | ⟨rfl, g⟩
      · exact .inl g
      · exact .inr ⟨rfl, cps_tr _ _ _ h g⟩
theorem cps_tot : ∀ a b : List Nat, ltCps a b = false → ltCps b a = false → a = b
  | [], [], _, _ => rfl
  | [], _ :: _, h, _ => by cases h
  | _ :: _, [], _, g => by cases g
  | a :: r, b :: s, h, g => by
    simp only [ltCps, Bool.or_eq_false_iff, decide_eq_false_iff_not, Bool.and_eq_false_iff, beq_eq_false_iff_ne] at h g
    have e : a = b := by omega
    subst e
    rw [cps_tot r s (h.2.resolve_left fun z => z rfl) (g.2.resolve_left fun z => z rfl)]
theorem str_eq {x y : Str} (h : x.cps.toList = y.cps.toList) : x = y := by
  cases x; cases y
  exact congrArg Str.mk (Array.toList_inj.mp h)
theorem ordS : LOrd ltS where
  irr a := cps_irr _
  tr a b c := cps_tr _ _ _
  tot a b h g := str_eq (cps_tot _ _ h g)
def ltI (a b : Int) : Bool := decide (a < b)
theorem ordI : LOrd ltI where
  irr a := by simp [ltI]
  tr a b c h g := by simp [ltI] at *; omega
  tot a b h g := by simp [ltI] at *; omega
/-- rows, sign by sign -/
def ltX {α : Type} [DecidableEq α] (lt : α → α → Bool) : List α → List α → Bool
  | [], [] => false
  | [], _ :: _ => true
  | _ :: _, [] => false
  | a :: r, b :: t => if a = b then ltX lt r t else lt a b
theorem ordX {α : Type} [DecidableEq α] {lt : α → α → Bool} (O : LOrd lt) : LOrd (ltX lt) where
  irr a := by induction a with | nil => rfl | cons x r ih => simp [ltX, ih]
  tr := by
    intro a
    induction a with
    | nil =>
      intro b c h g
      cases b with
      | nil => cases h
      | cons y s => cases c with | nil => cases g | cons z t => rfl
    | cons x r ih =>
      intro b c h g
      cases b with
      | nil => cases h
      | cons y s =>
        cases c with
        | nil => cases g
        | cons z t =>
          simp only [ltX] at h g ⊢
          by_cases e1 : x = y
          · subst e1
            rw [if_pos rfl] at h
            by_cases e2 : x = z
            · rw [if_pos e2] at g ⊢; exact ih _ _ h g
            · rw [if_neg e2] at g ⊢; exact g
          · rw [if_neg e1] at h
            by_cases e2 : y = z
            · subst e2; rw [if_neg e1]; exact h
            · rw [if_neg e2] at g
              have q := O.tr _ _ _ h g
              by_cases e3 : x = z
              · subst e3; rw [O.irr] at q; cases q
              · rw [if_neg e3]; exact q
  tot := by
    intro a
    induction a with
    | nil => intro b h g; cases b with | nil => rfl | cons => cases h
    | cons x r ih =>
      intro b h g
      cases b with
      | nil => cases g
      | cons y s =>
        simp only [ltX] at h g
        by_cases e1 : x = y
        · subst e1
          rw [if_pos rfl] at h g
          rw [ih _ h g]
        · rw [if_neg e1] at h
          rw [if_neg (Ne.symm e1)] at g
          exact absurd (O.tot _ _ h g) e1
theorem rising_asc : ∀ (x : Str) (l : List Str), risingS x l = true → Asc ltS (x :: l)
  | x, [], _ => List.pairwise_singleton ..
  | x, y :: r, h => by
    have h' : (!ltCps y.cps.toList x.cps.toList && risingS y r) = true := h
    simp only [Bool.and_eq_true, Bool.not_eq_true'] at h'
    have q := rising_asc y r h'.2
    obtain ⟨q1, _⟩ := List.pairwise_cons.mp q
    refine List.pairwise_cons.mpr ⟨fun z hz => ?_, q⟩
    rcases List.mem_cons.mp hz with rfl | hz
    · exact h'.1
    · exact ordS.le_tr h'.1 (q1 z hz)
theorem sorted_asc {l : List Str} (h : sortedS l = true) : Asc ltS l := by
  cases l with
  | nil => exact List.Pairwise.nil
  | cons x r => exact rising_asc x r h
end RA
set_option Elab.async false
set_option linter.all false
set_option maxRecDepth 100000
set_option maxHeartbeats 4000000
namespace RA
open PySem PySem.Spec PyProof.Rows L2

theorem strs_of : ∀ (l : List Value) (f : Value → Str), (∀ v ∈ l, ∃ tk, v = Value.str (f v) tk) → StrsAre l (l.map f)
  | [], _, _ => .nil
  | v :: l, f, h => by
    obtain ⟨tk, e⟩ := h v (List.mem_cons_self ..)
    have q := strs_of l f fun u hu => h u (List.mem_cons_of_mem _ hu)
    have z : StrsAre (Value.str (f v) tk :: l) (f v :: l.map f) := .cons _ tk q
    rw [← e] at z
    exact z
section
variable {P : Program} {w : World} {A : Around} {E : Value → Shared → Prop} {s : Shared}
/-- sorted(a), a set of texts -/
theorem sorted_setX {a : Addr} {S : Str → Bool} {n : Nat} {Q : Value → Shared → Prop} (R : SetX (tkStr P w) s.heap a S n) (hh : A.handled = none)
    (hQ : ∀ s' p (out : Array Value) (c : Nat) (ys : List Str), (∀ b o, s.heap.get? b = some o → s'.heap.get? b = some o) → s'.gens = s.gens → s'.os = s.os → s.heap.objs.size ≤ p →
      s'.heap.get? p = some (seqObj "list" out c) → StrsAre out.toList ys → Asc ltS ys → ys.Nodup → (∀ k, k ∈ ys ↔ S k = true) → ys.length ≤ sizeLine → Q (.ref p) s') :
    wpAny (model P w) A (call (.builtin "sorted") [.ref a]) Q E s := by
  obtain ⟨o, es, ep, t, ho, hex, hd, ⟨g, nd, hm⟩, ⟨hb, hf, hn⟩, hr, hl⟩ := R
  refine Calls.call_function_entry kind_sorted plain_sorted entry_sorted (args_sorted1 _) ?_
  unfold Builtin.«sorted»
  refine wpAny_bind (m := checkCount "sorted" 1 1 _) (wpAny_pure (wpAny_bind (collect_set (A := A.in1) hh ⟨o, ho, hex.1, hd⟩ hf hb hr hl fun s1 vs k1 hz g1 o1 pm => ?_)))
  have hvl : vs.length = n := by rw [pm.length_eq, List.length_map, Array.length_toList]; exact hn
  have hvs : vs.length ≤ sizeLine := by rw [hvl, ← hn]; exact fits_of_scanBound hb
  have hI : StrsAre vs (vs.map (tkStr P w).kOf) := strs_of vs _ fun v hv => by
    obtain ⟨e, he, q⟩ := List.mem_map.mp (pm.mem_iff.mp hv)
    obtain ⟨k, tk, h1, _⟩ := g e he
    exact ⟨tk, by rw [← q, h1]; rfl⟩
  have pk : (vs.map (tkStr P w).kOf).Perm (es.toList.map (tkStr P w).key) := by
    have q := pm.map (tkStr P w).kOf
    rw [List.map_map] at q
    exact q
  refine wpAny_bind (wpAny_newList ?_ hvs)
  have hoL : (s1.heap.push (seqObj "list" vs.toArray 0)).get? s1.heap.objs.size = some (seqObj "list" vs.toArray 0) := Heap.get?_push_size _ rfl
  refine wpAny_bind (wpAny_holding (wpAny_call_entry slot_list_sort ⟨_, hoL, rfl⟩ entry_list_sort (list_sort_treeKAny strKind_oneLt hoL hI.keysOf (fun v1 v2 rest e => keyKind_strs (by rw [← e]; exact hI)) hvs fun st' hp hs => ⟨_, rfl, ?_⟩) (args_list_sort _)))
  obtain ⟨ys, a1, a2, a3⟩ := sorted_out_str hI hp hs
  obtain ⟨c, hc⟩ := sortedHeap_at (vs := vs) (out := (arrOf st').map (·.2)) hoL
  have pn : ys.Perm (es.toList.map (tkStr P w).key) := a2.trans pk
  refine wpAny_pure ⟨_, rfl, hQ _ s1.heap.objs.size _ c ys (fun b u e => ?_) g1 o1 hz hc a1 (sorted_asc a3) (pn.nodup_iff.mpr nd) (fun k => by rw [pn.mem_iff, ← hm k]) ?_⟩
  · have q := k1 b u e
    have hlt := Heap.lt_size q
    show (sortedHeap (s1.heap.push (seqObj "list" vs.toArray 0)) s1.heap.objs.size vs ((arrOf st').map (·.2))).get? b = some u
    rw [sortedHeap_old (Nat.ne_of_lt hlt) (by rw [size_push']; exact Nat.lt_succ_of_lt hlt)]
    exact Heap.get?_push_of_some _ q
  · rw [a2.length_eq, List.length_map]; exact hvs
end
/-! ### sorted(set(x)), an expression -/
def SetTx (P : Program) (w : World) (a : Addr) (S : Str → Bool) (n : Nat) : HO := .ext fun h => SetX (tkStr P w) h a S n
def rSetTx (X : Cx) : List V → Hp → VK → Prop := fun vs H Q => ∃ (a : Addr) (xs : List Str), vs = [V.ref a] ∧ (SqL X.K H a (xs.map V.str) ∨ SqT X.K H a (xs.map V.str)) ∧ xs.length + 1 < scanBound ∧
  ∀ (p : Addr) (n : Nat), H p = none → Q (.ref p) (upd H p (SetTx X.prog X.w p (fun k => decide (k ∈ xs)) n))
def rSortedTx (X : Cx) : List V → Hp → VK → Prop := fun vs H Q => ∃ (a : Addr) (S : Str → Bool) (n : Nat), vs = [V.ref a] ∧ H a = some (SetTx X.prog X.w a S n) ∧
  ∀ (ys : List Str) (p : Addr), Asc ltS ys → ys.Nodup → (∀ k, k ∈ ys ↔ S k = true) → ys.length ≤ sizeLine → H p = none → Q (.ref p) (upd H p (.lst (ys.map V.str)))
section
variable {X : Cx}
theorem strs_val : ∀ {us : List Value} {xs : List Str}, StrsAre us xs → ∀ (i : Nat) (v : Value), us[i]? = some v → ∃ k tk, v = (tkStr X.prog X.w).val k tk ∧ xs[i]? = some k
  | _, _, .nil, i, v, h => by simp at h
  | _, _, .cons n t hr, 0, v, h => by simp at h; exact ⟨n, t, h.symm, rfl⟩
  | _, _, .cons n t hr, i + 1, v, h => by
    simp only [List.getElem?_cons_succ] at h ⊢
    exact strs_val hr i v h
theorem cr_setTx (hc : X.calm = true) : CallR X (.type "set") (rSetTx X) := by
  intro pins s σ H vs us Q I r h
  obtain ⟨a, xs, rfl, hs, hb, q⟩ := h
  rw [Vals.ref1 r]
  have fin : ∀ (h' : Heap) (tk c : Nat), (∀ b o, b < s.heap.objs.size → s.heap.get? b = some o → h'.get? b = some o) → SetX (tkStr X.prog X.w) h' s.heap.objs.size (fun k => decide (k ∈ xs)) c → EP X pins σ Q (.ref s.heap.objs.size) { s with heap := h', toks := tk } := fun h' tk c hk hS => by
    refine ⟨.ref _, upd H s.heap.objs.size (SetTx X.prog X.w s.heap.objs.size (fun k => decide (k ∈ xs)) c), I.laid (t' := tk) (fun b o e => hk b o (Heap.lt_size e) e) (Nat.le_refl _) ?_, rfl, q _ c (I.hok.fresh (Nat.le_refl _))⟩
    have ⟨o, _, _, _, ho, _⟩ := hS
    exact ⟨hS, ⟨o, ho⟩, fun h1 h2 p k => SetX.at p k⟩
  rcases hs with hs | hs
  · obtain ⟨its, rv, pl, hz⟩ := I.list hs
    have hl : xs.length = its.toArray.size := by rw [List.size_toArray, ← rv.length, List.length_map]
    exact call_setX_list (T := tkStr X.prog X.w) (I.ok.hd hc) pl.isList hl (by rw [← hl]; exact hb) (fun i v e => strs_val rv.strs i v (by simpa using e)) fun h' tk c hk _ hS => fin h' tk c hk hS
  · obtain ⟨its, rv, pl, hz⟩ := I.tuple hs
    have hl : xs.length = its.toArray.size := by rw [List.size_toArray, ← rv.length, List.length_map]
    exact call_setX_tup (T := tkStr X.prog X.w) (I.ok.hd hc) (show s.heap.IsTuple a its.toArray from pl) hl (by rw [← hl]; exact hb) (fun i v e => strs_val rv.strs i v (by simpa using e)) fun h' tk c hk _ hS => fin h' tk c hk hS
theorem cr_sortedTx (hc : X.calm = true) : CallR X (.builtin "sorted") (rSortedTx X) := by
  intro pins s σ H vs us Q I r h
  obtain ⟨a, S, n, rfl, ha, q⟩ := h
  rw [Vals.ref1 r]
  have R : SetX (tkStr X.prog X.w) s.heap a S n := (I.hok a _ ha).1
  refine sorted_setX R (I.ok.hd hc) fun s' p out c ys k g o hp hg hi h1 h2 h3 hl => ?_
  have hn : H p = none := I.hok.fresh hp
  have e : s' = { s with heap := s'.heap, gens := s'.gens, drawn := s'.drawn, toks := s'.toks } := by
    obtain ⟨h', g', d', t', o'⟩ := s'
    cases o
    rfl
  have hl' : (ys.map V.str).length ≤ sizeLine := by rw [List.length_map]; exact hl
  have J : L2.Inv X pins σ (upd H p (.lst (ys.map V.str))) s' := by
    rw [e]
    exact I.call (ch := []) (Un.laid k hp hn) (I.hok.laid k hp ⟨hl', out.toList, c, vals_of_strs hi, hg⟩) (by rw [g]; exact I.bare) (fun _ z => nomatch z)
  exact ⟨.ref p, _, J, rfl, q ys p h1 h2 h3 hl hn⟩
variable {W : WX} {e : Expr} {ms : S → R (List Vl)} {p p2 pos pos2 : Pos}
def fSortedSet (ws : List Vl) (st : S) : R Ob := match ws with
  | [x] => (match (itemsOf x st).bind strsD with
    | some xs => if xs.length + 1 < scanBound then .ok (.lst ((setL ltS xs).map .str)) st else .bad
    | none => .bad)
  | _ => .bad
theorem f_sortedSet (hm : X.mg "sorted" = none) (hm2 : X.mg "set" = none) (ha : AA X W [e] ms) (hg : Gl X "sorted" := by rfl) (hg2 : Gl X "set" := by rfl) (hc : X.calm = true := by rfl)
    (he : starEach [.Call (.Name "set" p2) [e] [] pos2] X.env = (false, eval (.Call (.Name "set" p2) [e] [] pos2) X.env) :: starEach [] X.env := by rfl)
    (he2 : starEach [e] X.env = (false, eval e X.env) :: starEach [] X.env := by rfl) :
    AF X W (.Call (.Name "sorted" p) [.Call (.Name "set" p2) [e] [] pos2] [] pos) (mCallF fSortedSet ms) :=
  PE.imp (pe_callB (cr_sortedTx hc) hg hm (by decide +kernel) (pa_cons (pe_callTy (cr_setTx hc) hg2 hm2 (by decide +kernel) ha (by decide) (by decide) he2 rfl) pa_nil he) (by decide) (by decide) he rfl) fun σ H Q ⟨A, st, sr, q⟩ =>
  ⟨A, st, sr, q.bind.imp fun ws s1 H1 e1 sr1 p1 vs rv => by
    unfold fSortedSet at p1
    split at p1
    · obtain ⟨v, rfl, rx⟩ := rws1 rv
      split at p1
      · rename_i xs ex
        obtain ⟨ds, e2, e3⟩ := Option.bind_eq_some_iff.mp ex
        obtain ⟨a, us, rfl, h2, r2⟩ := itemsOf_at sr1 rx e2
        obtain rfl := strsD_rv r2 e3
        split at p1
        · rename_i hz
          refine ⟨a, xs, rfl, h2, hz, fun p n hp => ?_⟩
          refine ⟨p, _, n, rfl, upd_same, fun ys p' h4 h5 h6 h7 hp' => ?_⟩
          have eys : ys = setL ltS xs := setL_eq ordS h4 h5 fun k => by rw [h6 k]; simp
          subst eys
          have hz' : hsz (.lst ((setL ltS xs).map V.str)) ≤ sizeLine := by show ((setL ltS xs).map V.str).length ≤ _; rw [List.length_map]; exact h7
          have s0 := stp_new (o := SetTx X.prog X.w p (fun k => decide (k ∈ xs)) n) hp sr1.dj
          have sr0 := sr1.newp (o := SetTx X.prog X.w p (fun k => decide (k ∈ xs)) n) hp (Nat.zero_le _)
          have sp := stp_new (o := .lst ((setL ltS xs).map V.str)) hp' sr0.dj
          exact p1 _ (s0.trans sp) (sr0.newp hp' hz') p' (e1.back (s0.back hp')) (sr0.new hp' hz') (ro_newlst hp' (rvs_strs _))
        · exact p1.elim
      · exact p1.elim
    · exact p1.elim⟩
end
end RA
set_option Elab.async false
set_option linter.all false
set_option maxRecDepth 100000
set_option maxHeartbeats 4000000
namespace RA
open PySem PySem.Spec PyProof.Rows L2 PySem.W

/-! ### rows of texts, sorted -/
/-- the tuple v of texts l -/
def TxV (h : Heap) (v : Value) (l : List Str) : Prop := ∃ a items, v = .ref a ∧ h.IsTuple a items ∧ StrsAre items.toList l
theorem TxV.keep {h h' : Heap} {v : Value} {l : List Str} (t : TxV h v l) (k : ∀ a o, v = .ref a → h.get? a = some o → h'.get? a = some o) : TxV h' v l :=
  let ⟨a, items, e, it, r⟩ := t; ⟨a, items, e, it.at fun o q => k a o e q, r⟩
theorem lexAt_strs : ∀ (xs ys : List Str) (z : Bool) (i : Nat) (e r : Nat → Bool), z = decide (xs.length < ys.length) → (∀ j (h1 : j < xs.length) (h2 : j < ys.length), e (i + j) = (xs[j] == ys[j]) ∧ r (i + j) = ltS xs[j] ys[j]) →
    Ob.lexAt e r z i (min xs.length ys.length) = ltX ltS xs ys
  | [], [], z, i, e, r, hz, _ => by simp [Ob.lexAt, ltX, hz]
  | [], y :: ys, z, i, e, r, hz, _ => by simp [Ob.lexAt, ltX, hz]
  | x :: xs, [], z, i, e, r, hz, _ => by simp [Ob.lexAt, ltX, hz]
  | x :: xs, y :: ys, z, i, e, r, hz, h => by
    have h0 := h 0 (by simp) (by simp)
    simp only [Nat.add_zero, List.getElem_cons_zero] at h0
    rw [show min (x :: xs).length (y :: ys).length = min xs.length ys.length + 1 by simp only [List.length_cons]; omega, Ob.lexAt_succ, h0.1, h0.2]
    have ih := lexAt_strs xs ys z (i + 1) e r (by rw [hz]; simp) fun j h1 h2 => by
      have q := h (j + 1) (by simp; omega) (by simp; omega)
      rw [show i + 1 + j = i + (j + 1) by omega]
      simpa using q
    rw [ih]
    simp only [ltX, beq_iff_eq]
theorem strs_get : ∀ {us : List Value} {xs : List Str}, StrsAre us xs → ∀ (j : Nat) (h1 : j < us.length) (h2 : j < xs.length), ∃ t, us[j] = .str xs[j] t
  | _, _, .nil, j, h1, _ => by simp at h1
  | _, _, .cons n t hr, 0, h1, _ => ⟨t, rfl⟩
  | _, _, .cons n t hr, j + 1, h1, h2 => by
    simp only [List.getElem_cons_succ]
    exact strs_get hr j _ _
theorem getD_at {l : List Str} {j : Nat} {d : Str} (h : j < l.length) : l.getD j d = l[j] := by
  rw [List.getD_eq_getElem?_getD, List.getElem?_eq_getElem h]
  rfl
theorem strs_len : ∀ {us : List Value} {xs : List Str}, StrsAre us xs → us.length = xs.length
  | _, _, .nil => rfl
  | _, _, .cons n t hr => by simp [strs_len hr]
section
variable {P : Program} {w : World} {A : Around} {E : Value → Shared → Prop} {s : Shared}
theorem rc_str (x y : Str) (t u : Tok) : Ob.RcOp .Lt A s (.str x t) (.str y u) (ltS x y) := fun prog w E Q h => by
  have q : Q (.bool (decide (x.cps.toList < y.cps.toList))) s := by rw [← ltCps_eq]; exact h
  exact (PyProof.Rows.lt_str q : wpAny (model prog w) A (compareOp .Lt (.str x t) (.str y u)) Q E s)
theorem arr_strs {it it2 : Array Value} {l l2 : List Str} (r : StrsAre it.toList l) (r2 : StrsAre it2.toList l2) :
    (∀ j (h1 : j < it.size) (h2 : j < it2.size), PySem.SeqAt.EqAt A s it[j] it2[j] (l.getD j Str.empty == l2.getD j Str.empty)) ∧ ∀ j (h1 : j < it.size) (h2 : j < it2.size), Ob.RcOp .Lt A s it[j] it2[j] (ltS (l.getD j Str.empty) (l2.getD j Str.empty)) := by
  have e1 := strs_len r
  have e2 := strs_len r2
  rw [Array.length_toList] at e1 e2
  have key : ∀ j (h1 : j < it.size) (h2 : j < it2.size), ∃ t u, it[j] = .str (l.getD j Str.empty) t ∧ it2[j] = .str (l2.getD j Str.empty) u := fun j h1 h2 => by
    obtain ⟨t, q1⟩ := strs_get r j (by simpa using h1) (by omega)
    obtain ⟨u, q2⟩ := strs_get r2 j (by simpa using h2) (by omega)
    refine ⟨t, u, ?_, ?_⟩
    · rw [getD_at (by omega)]; simpa using q1
    · rw [getD_at (by omega)]; simpa using q2
  refine ⟨fun j h1 h2 => ?_, fun j h1 h2 => ?_⟩
  · obtain ⟨t, u, q1, q2⟩ := key j h1 h2
    rw [q1, q2]
    exact PySem.SeqAt.EqAt.str_str _ _ _ _
  · obtain ⟨t, u, q1, q2⟩ := key j h1 h2
    rw [q1, q2]
    exact rc_str _ _ _ _
theorem lex_row {it it2 : Array Value} {l l2 : List Str} (r : StrsAre it.toList l) (r2 : StrsAre it2.toList l2) :
    Ob.lexAt (fun j => l.getD j Str.empty == l2.getD j Str.empty) (fun j => ltS (l.getD j Str.empty) (l2.getD j Str.empty)) (decide (it.size < it2.size)) 0 (min it.size it2.size) = ltX ltS l l2 := by
  have e1 := strs_len r
  have e2 := strs_len r2
  rw [Array.length_toList] at e1 e2
  rw [e1, e2]
  refine lexAt_strs l l2 _ 0 _ _ rfl fun j h1 h2 => ?_
  rw [Nat.zero_add, getD_at h1, getD_at h2]
  exact ⟨rfl, rfl⟩
/-- v < u, rows of texts -/
theorem rc_row {v u : Value} {l l2 : List Str} (hu : A.units < cLine) (t : TxV s.heap v l) (t2 : TxV s.heap u l2) : Ob.RcOp .Lt A s v u (ltX ltS l l2) := by
  obtain ⟨a, it, rfl, hi, r⟩ := t
  obtain ⟨b, it2, rfl, hi2, r2⟩ := t2
  rw [← lex_row r r2]
  exact Ob.RcOp.tuples_lt hi hi2 hu (arr_strs r r2).1 fun j h1 h2 _ => (arr_strs r r2).2 j h1 h2
theorem one_row {v u : Value} {l l2 : List Str} (hu : A.units < cLine) (t : TxV s.heap v l) (t2 : TxV s.heap u l2) {Q : Bool → Shared → Prop} (h : Q (ltX ltS l l2) s) : wpAny (model P w) A (keyLt' oneType' v u) Q E s := by
  obtain ⟨a, it, rfl, hi, r⟩ := t
  obtain ⟨b, it2, rfl, hi2, r2⟩ := t2
  rw [keyLt'_oneType, oneLt'_eq]
  simp only [if_true]
  refine wpAny_bind (wpAny_cRoomFor hu ?_)
  obtain ⟨⟨cls, dd, data, sl⟩, ho, hc, n, hd⟩ := id hi
  obtain ⟨⟨cls2, dd2, data2, sl2⟩, ho2, hc2, n2, hd2⟩ := id hi2
  simp only at hc hd hc2 hd2
  subst hc hd hc2 hd2
  refine wpAny_bind (wpAny_callSpecialIfBound?_slot (T := "tuple") (id := "tuple.__lt__") ⟨_, ho, rfl⟩ F.slot_tuple_lt (call_meets F.slot_tuple_lt ⟨_, ho, rfl⟩ F.entry_tuple_lt (F.args_tuple_lt_2 _ _)
    (Ob.tuple_ltAt a b it it2 n n2 dd dd2 sl sl2 (fun j => l.getD j Str.empty == l2.getD j Str.empty) fun j => ltS (l.getD j Str.empty) (l2.getD j Str.empty)) ⟨ho, ho2, (arr_strs r r2).1, fun j h1 h2 _ => (arr_strs r r2).2 j h1 h2, ?_⟩))
  rw [lex_row r r2]
  exact wpAny_truthy_bool h
theorem gen_row {v u : Value} {l l2 : List Str} (hu : A.units < cLine) (t : TxV s.heap v l) (t2 : TxV s.heap u l2) {Q : Bool → Shared → Prop} (h : Q (ltX ltS l l2) s) : wpAny (model P w) A (keyLt' general' v u) Q E s := by
  show wpAny (model P w) A (oneLt' false v u) Q E s
  rw [oneLt'_eq]
  simp only [Bool.false_eq_true, if_false]
  exact wpAny_bind (rc_row hu t t2 P w E _ (wpAny_truthy_bool h))
theorem kat_row {b fin : Bool} {Q : Bool → Shared → Prop} : ∀ {ps qs : List Value} {xs ys : List Str} {i : Nat}, StrsAre ps xs → StrsAre qs ys → fin = decide (ps.length < qs.length) → Q (ltX ltS xs ys) s → KatLex P w A b fin Q (ps.zip qs) i s
  | [], [], _, _, i, .nil, .nil, hf, h => by subst hf; exact kat_nil h
  | [], _ :: _, _, _, i, .nil, .cons y u r2, hf, h => by subst hf; exact kat_nil (by simpa [ltX] using h)
  | _ :: _, [], _, _, i, .cons x t r, .nil, hf, h => by subst hf; exact kat_nil (by simpa [ltX] using h)
  | _ :: _, _ :: _, _, _, i, .cons (vs := ps) (ys := xs) x t r, .cons (vs := qs) (ys := ys) y u r2, hf, h => by
    rw [List.zip_cons_cons]
    refine kat_cons (PySem.SeqAt.EqAt.str_str x t y u P w _ _ (kat_go (fun e => kat_yes ?_) fun e => kat_no ?_))
    · rw [beq_iff_eq] at e
      subst e
      rw [ltX, if_pos rfl] at h
      exact kat_row r r2 (by rw [hf]; simp) h
    · rw [beq_eq_false_iff_ne] at e
      rw [ltX, if_neg e] at h
      exact oneLt_any_str (by rw [← ltCps_eq]; exact h)
theorem tup_row {v u : Value} {l l2 : List Str} (t : TxV s.heap v l) (t2 : TxV s.heap u l2) {Q : Bool → Shared → Prop} (b : Bool) (h : Q (ltX ltS l l2) s) : wpAny (model P w) A (keyLt' (tuples' b) v u) Q E s := by
  obtain ⟨a, it, rfl, ⟨o, ho, hc, n, hd⟩, r⟩ := t
  obtain ⟨c, it2, rfl, ⟨o2, ho2, hc2, n2, hd2⟩, r2⟩ := t2
  exact kat_lt ho hd ho2 hd2 (kat_row r r2 (by simp) h)
theorem mapM_at {α β : Type} {M : Model} {f : α → Sem β} {g : α → β} : ∀ (l : List α) {Q : List β → Shared → Prop}, (∀ v ∈ l, ∀ (Q' : β → Shared → Prop), Q' (g v) s → wpAny M A (f v) Q' E s) → Q (l.map g) s → wpAny M A (l.mapM f) Q E s
  | [], _, _, h => by rw [List.mapM_nil]; exact wpAny_pure h
  | x :: l, Q, hf, h => by
    rw [List.mapM_cons]
    exact wpAny_bind (hf x (List.mem_cons_self ..) _ (wpAny_bind (mapM_at l (Q := fun bs s' => wpAny M A (pure (g x :: bs)) Q E s') (fun v hv => hf v (List.mem_cons_of_mem _ hv)) (wpAny_pure h))))
noncomputable def firstOf (h : Heap) (v : Value) : Option Value := match v with
  | .ref a => (match h.get? a with
    | some o => (match o.data with
      | .seq xs _ => xs[0]?
      | _ => none)
    | none => none)
  | _ => none
theorem first_at {v : Value} {l : List Str} (t : TxV s.heap v l) {M : Model} {Q : Option Value → Shared → Prop} (h : Q (firstOf s.heap v) s) : wpAny M A (firstOfTuple' v) Q E s := by
  obtain ⟨a, it, rfl, ⟨o, ho, hc, n, hd⟩, r⟩ := t
  rw [kas_first_eq]
  refine wpAny_bind (wpAny_typeOf (T := "tuple") ⟨o, ho, hc⟩ ?_)
  rw [if_neg (by decide)]
  refine wpAny_bind (listItems_at ho hd (wpAny_pure ?_))
  simp only [firstOf, ho, hd] at h
  exact h
theorem first_some {v : Value} {l : List Str} (t : TxV s.heap v l) : (firstOf s.heap v).isSome = !l.isEmpty := by
  obtain ⟨a, it, rfl, ⟨o, ho, hc, n, hd⟩, r⟩ := t
  have e := strs_len r
  simp only [firstOf, ho, hd]
  rw [Array.length_toList] at e
  cases l with
  | nil => simp at e; simp [e]
  | cons x l => simp at e; rw [Array.getElem?_eq_getElem (by omega)]; rfl
/-- the kind that the sort finds -/
theorem kind_row {vs : List Value} {k : Value → List Str} (h2 : 2 ≤ vs.length) (ht : ∀ v ∈ vs, TxV s.heap v (k v)) (hu : A.units < cLine) : ∃ κ, (∀ (Q : SortKind → Shared → Prop) (E : Value → Shared → Prop), Q κ s → wpAny (model P w) A (keyKind' vs.toArray) Q E s) ∧
    (∀ v ∈ vs, ∀ u ∈ vs, ∀ (Q : Bool → Shared → Prop) (E : Value → Shared → Prop), Q (ltX ltS (k v) (k u)) s → wpAny (model P w) A (keyLt' κ v u) Q E s) := by
  by_cases hall : ∀ v ∈ vs, k v ≠ []
  · refine ⟨tuples' true, fun Q E h => ?_, fun v hv u hu' Q E h => tup_row (ht v hv) (ht u hu') true h⟩
    have hf : ∀ v ∈ vs, ∃ x t, firstOf s.heap v = some (.str x t) := fun v hv => by
      obtain ⟨a, it, rfl, ⟨o, ho, hc, n, hd⟩, r⟩ := ht v hv
      have hne := hall _ hv
      cases hk : k (.ref a) with
      | nil => exact absurd hk hne
      | cons x l =>
        rw [hk] at r
        have e := strs_len r
        obtain ⟨t, q⟩ := strs_get r 0 (by rw [e]; simp) (by simp)
        refine ⟨x, t, ?_⟩
        simp only [firstOf, ho, hd]
        rw [Array.getElem?_eq_getElem (by rw [Array.length_toList] at e; simp at e; omega)]
        simpa using q
    rw [kat_kind_eq, List.mapM_toArray, map_eq_pure_bind]
    refine wpAny_bind (wpAny_bind (mapM_at (g := firstOf s.heap) vs (fun v hv Q' hq => first_at (ht v hv) hq) (wpAny_pure ?_)))
    have ha : ((vs.map (firstOf s.heap)).toArray.all fun x => x.isSome) = true := by
      simp only [List.all_toArray, List.all_map, List.all_eq_true]
      intro v hv
      obtain ⟨x, t, e⟩ := hf v hv
      simp [e]
    rw [if_pos ha]
    refine wpAny_bind (wpAny_rule ?_)
    have hm : ∀ l : List Value, (∀ v ∈ l, ∃ x t, firstOf s.heap v = some (.str x t)) → ∃ fs : List Value, (l.map (firstOf s.heap)).filterMap id = fs ∧ fs.length = l.length ∧ ∀ f ∈ fs, ∃ x t, f = .str x t := by
      intro l
      induction l with
      | nil => exact fun _ => ⟨[], rfl, rfl, fun f hf => by cases hf⟩
      | cons v l ih =>
        intro h
        obtain ⟨x, t, e⟩ := h v (List.mem_cons_self ..)
        obtain ⟨fs, e1, e2, e3⟩ := ih fun u hu => h u (List.mem_cons_of_mem _ hu)
        refine ⟨.str x t :: fs, by simp [e, ← e1], by simp [e2], fun f hf => ?_⟩
        rcases List.mem_cons.mp hf with rfl | hf
        · exact ⟨x, t, rfl⟩
        · exact e3 f hf
    obtain ⟨fs, e1, e2, e3⟩ := hm vs hf
    rw [show ((vs.map (firstOf s.heap)).toArray.filterMap id) = fs.toArray by simp [← e1]]
    rw [oneTypeOnly'_eq, List.mapM_toArray, map_eq_pure_bind]
    refine wpAny_bind (wpAny_bind (wpAny_bind (mapM_at (g := fun _ => Value.type "str") fs (fun v hv Q' hq => ?_) (wpAny_pure ?_))))
    · obtain ⟨x, t, rfl⟩ := e3 v hv
      exact wpAny_pure hq
    · have h0 : (fs.map fun _ => Value.type "str").toArray[0]? = some (Value.type "str") := by
        cases fs with
        | nil => simp at e2; omega
        | cons f fs => simp
      rw [h0]
      have h1 : ((fs.map fun _ => Value.type "str").toArray.all fun x => x == Value.type "str") = true := by
        simp only [List.all_toArray, List.all_map, List.all_eq_true]
        intro _ _
        rfl
      simp only [h1, if_true]
      exact wpAny_pure (wpAny_pure h)
  · have hex : ∃ v ∈ vs, k v = [] := Classical.byContradiction fun z => hall fun v hv e => z ⟨v, hv, e⟩
    obtain ⟨v0, hv0, hk0⟩ := hex
    have hna : ((vs.map (firstOf s.heap)).toArray.all fun x => x.isSome) = false := by
      rw [Bool.eq_false_iff]
      intro z
      simp only [List.all_toArray, List.all_map, List.all_eq_true] at z
      have q := z v0 hv0
      simp only [Function.comp] at q
      rw [first_some (ht v0 hv0), hk0] at q
      cases q
    cases hg : ((vs.map (firstOf s.heap)).toArray[0]?.bind id).isSome with
    | true =>
      refine ⟨general', fun Q E h => ?_, fun v hv u hu' Q E h => gen_row hu (ht v hv) (ht u hu') h⟩
      rw [kat_kind_eq, List.mapM_toArray, map_eq_pure_bind]
      refine wpAny_bind (wpAny_bind (mapM_at (g := firstOf s.heap) vs (fun v hv Q' hq => first_at (ht v hv) hq) (wpAny_pure ?_)))
      rw [if_neg (by rw [hna]; exact Bool.false_ne_true), if_pos hg]
      exact wpAny_pure h
    | false =>
      refine ⟨oneType', fun Q E h => ?_, fun v hv u hu' Q E h => one_row hu (ht v hv) (ht u hu') h⟩
      rw [kat_kind_eq, List.mapM_toArray, map_eq_pure_bind]
      refine wpAny_bind (wpAny_bind (mapM_at (g := firstOf s.heap) vs (fun v hv Q' hq => first_at (ht v hv) hq) (wpAny_pure ?_)))
      rw [if_neg (by rw [hna]; exact Bool.false_ne_true), if_neg (by rw [hg]; exact Bool.false_ne_true)]
      rw [oneTypeOnly'_eq, List.mapM_toArray, map_eq_pure_bind]
      refine wpAny_bind (wpAny_bind (wpAny_bind (mapM_at (g := fun _ => Value.type "tuple") vs (fun v hv Q' hq => ?_) (wpAny_pure ?_))))
      · obtain ⟨a, it, rfl, ⟨o, ho, hc, n, hd⟩, r⟩ := ht v hv
        exact wpAny_typeOf (T := "tuple") ⟨o, ho, hc⟩ hq
      · have h0 : (vs.map fun _ => Value.type "tuple").toArray[0]? = some (Value.type "tuple") := by
          cases vs with
          | nil => simp at h2
          | cons f fs => simp
        rw [h0]
        have h1 : ((vs.map fun _ => Value.type "tuple").toArray.all fun x => x == Value.type "tuple") = true := by
          simp only [List.all_toArray, List.all_map, List.all_eq_true]
          intro _ _
          rfl
        simp only [h1, if_true]
        exact wpAny_pure (wpAny_pure h)
end
end RA
set_option Elab.async false
set_option linter.all false
set_option maxRecDepth 100000
set_option maxHeartbeats 4000000
namespace RA
open PySem PySem.Spec PyProof.Rows L2 PySem.W

theorem strs_inj : ∀ {us : List Value} {xs ys : List Str}, StrsAre us xs → StrsAre us ys → xs = ys
  | _, _, _, .nil, .nil => rfl
  | _, _, _, .cons n t r, .cons _ _ r2 => by rw [strs_inj r r2]
theorem TxV.inj {h : Heap} {v : Value} {l l2 : List Str} (t : TxV h v l) (t2 : TxV h v l2) : l = l2 := by
  obtain ⟨a, it, rfl, ⟨o, ho, hc, n, hd⟩, r⟩ := t
  obtain ⟨b, it2, e, ⟨o2, ho2, hc2, n2, hd2⟩, r2⟩ := t2
  cases e
  rw [ho] at ho2; cases ho2
  rw [hd] at hd2; cases hd2
  exact strs_inj r r2
open Classical in
noncomputable def rowOf (h : Heap) (v : Value) : List Str := if e : ∃ l, TxV h v l then Classical.choose e else []
theorem rowOf_eq {h : Heap} {v : Value} {l : List Str} (t : TxV h v l) : rowOf h v = l := by
  have e : ∃ l, TxV h v l := ⟨l, t⟩
  rw [rowOf, dif_pos e]
  exact (Classical.choose_spec e).inj t
theorem LOrd.swo {α β : Type} {lt : α → α → Bool} (O : LOrd lt) (k : β → α) : SrtO.Swo fun v u => lt (k v) (k u) where
  asym x y h := O.asym h
  tr x y z h g := O.le_tr h g
section
variable {P : Program} {w : World} {A : Around} {E : Value → Shared → Prop} {s : Shared}
theorem sorted_rows {l : Addr} {vs : List Value} {Q : Value → Shared → Prop} (hl : s.heap.IsList l vs.toArray) (hz : vs.length ≤ sizeLine) (hu : A.units + 2 < cLine) (ht : ∀ v ∈ vs, TxV s.heap v (rowOf s.heap v))
    (h : ∀ out : List Value, Asc (fun v u => ltX ltS (rowOf s.heap v) (rowOf s.heap u)) out → out.Perm vs → Q (.ref (s.heap.objs.size + 1)) { s with heap := sortedAll s.heap vs out.toArray }) :
    wpAny (model P w) A (call (.builtin "sorted") [.ref l]) Q E s := by
  refine SrtO.sorted_ord ((ordX ordS).swo (rowOf s.heap)) hl hz (fun h2 h1 a ha hk h' hk' => ?_) fun out o1 o2 => h out o1 o2.perm
  have ht' : ∀ v ∈ vs, TxV h' v (rowOf s.heap v) := fun v hv => (ht v hv).keep fun b o _ e => by
    obtain ⟨n1, e1⟩ := hk b o e
    exact hk' b o n1 e1
  obtain ⟨κ, k1, k2⟩ := kind_row (P := P) (w := w) (s := { s with heap := h' }) (A := A.in1.in1) h2 ht' (show A.units + 1 + 1 < cLine by omega)
  exact ⟨κ, k1, fun p q hp hq => k2 p.1 hp q.1 hq _ _ ⟨rfl, rfl⟩⟩
end
def rSortedAll (K : PySem.W.Frag) : List V → Hp → VK → Prop := fun vs H Q =>
  (∃ (a : Addr) (xs : List Str), vs = [V.ref a] ∧ SqL K H a (xs.map V.str) ∧ ∀ p, H p = none → Q (.ref p) (upd H p (.lst ((sortL ltS xs).map V.str)))) ∨
  (∃ (a : Addr) (xs : List Int), vs = [V.ref a] ∧ SqL K H a (xs.map V.int) ∧ ∀ p, H p = none → Q (.ref p) (upd H p (.lst ((sortL ltI xs).map V.int)))) ∨
  ∃ (a : Addr) (bs : List Addr) (kf : Addr → List Str), vs = [V.ref a] ∧ SqL K H a (bs.map V.ref) ∧ (∀ b ∈ bs, SqT K H b ((kf b).map V.str)) ∧ ∀ bs' p, bs'.Perm bs → Asc (fun b c => ltX ltS (kf b) (kf c)) bs' → H p = none → Q (.ref p) (upd H p (.lst (bs'.map V.ref)))
theorem vals_ref : ∀ {bs : List Addr} {us : List Value}, Vals (bs.map V.ref) us → us = bs.map Value.ref
  | [], _, r => by cases r; rfl
  | b :: bs, _, r => by
    cases r with
    | cons a c => cases a; rw [vals_ref c]; rfl
theorem vals_ref' : ∀ bs : List Addr, Vals (bs.map V.ref) (bs.map Value.ref)
  | [] => .nil
  | b :: bs => .cons rfl (vals_ref' bs)
theorem perm_ref {bs : List Addr} {out : List Value} (p : out.Perm (bs.map Value.ref)) : ∃ bs' : List Addr, out = bs'.map Value.ref ∧ bs'.Perm bs := by
  have back : ∀ l : List Addr, (l.map Value.ref).map (fun v => match v with | .ref a => a | _ => 0) = l := fun l => by
    induction l with
    | nil => rfl
    | cons b l ih => rw [List.map_cons, List.map_cons, ih]
  refine ⟨out.map fun v => match v with | .ref a => a | _ => 0, ?_, ?_⟩
  · rw [List.map_map]
    conv => lhs; rw [← List.map_id out]
    refine List.map_congr_left fun v hv => ?_
    obtain ⟨b, _, rfl⟩ := List.mem_map.mp (p.mem_iff.mp hv)
    rfl
  · have q := p.map fun v => match v with | .ref a => a | _ => 0
    rw [back] at q
    exact q
section
variable {X : Cx}
theorem cr_sortedAll (hu : X.A.units + 2 < cLine) : CallR X (.builtin "sorted") (rSortedAll X.K) := by
  intro pins s σ H vs us Q I r h
  rcases h with ⟨a, xs, rfl, hs, q⟩ | ⟨a, xs, rfl, hs, q⟩ | ⟨a, bs, kf, rfl, hs, hk, q⟩
  · obtain ⟨its, rv, hl, hz⟩ := I.list hs
    rw [Vals.ref1 r]
    refine PyProof.Rows.sorted_strsAny hl.isList rv.strs (by rw [← rv.length]; exact hz) fun out ys h1 h2 h3 => ?_
    obtain ⟨ep, he'⟩ := PyProof.Rows.sortedAll_at s.heap its out
    obtain rfl := asc_sortL ordS (sorted_asc h3) h2
    have hlen : ((sortL ltS xs).map V.str).length ≤ sizeLine := by
      rw [List.length_map, h2.length_eq]
      simpa using hz
    exact ⟨.ref _, upd H (s.heap.objs.size + 1) (.lst ((sortL ltS xs).map V.str)), I.laid (t' := s.toks) (fun _ _ => PyProof.Rows.sortedAll_old) (Nat.le_succ _) ⟨hlen, out.toList, ep, vals_of_strs h1, he'⟩, rfl, q _ (I.hok.fresh (Nat.le_succ _))⟩
  · obtain ⟨its, rv, hl, hz⟩ := I.list hs
    rw [Vals.ref1 r]
    refine PyProof.Rows.sorted_intsAny hl.isList rv.ints (by rw [← rv.length]; exact hz) fun out ys h1 h2 h3 => ?_
    obtain ⟨ep, he'⟩ := PyProof.Rows.sortedAll_at s.heap its out
    obtain rfl := asc_sortL ordI (List.Pairwise.imp (fun {a b} h => by simp [ltI]; omega) h3) h2
    have hlen : ((sortL ltI xs).map V.int).length ≤ sizeLine := by
      rw [List.length_map, h2.length_eq]
      simpa using hz
    exact ⟨.ref _, upd H (s.heap.objs.size + 1) (.lst ((sortL ltI xs).map V.int)), I.laid (t' := s.toks) (fun _ _ => PyProof.Rows.sortedAll_old) (Nat.le_succ _) ⟨hlen, out.toList, ep, vals_of_ints h1, he'⟩, rfl, q _ (I.hok.fresh (Nat.le_succ _))⟩
  · obtain ⟨its, rv, hl, hz⟩ := I.list hs
    rw [Vals.ref1 r]
    obtain rfl := vals_ref rv
    have row : ∀ b ∈ bs, TxV s.heap (.ref b) (kf b) := fun b hb => by
      obtain ⟨its, r2, p2, _⟩ := I.tuple (hk b hb)
      exact ⟨b, its.toArray, rfl, p2, by simpa using r2.strs⟩
    have rowE : ∀ b ∈ bs, rowOf s.heap (.ref b) = kf b := fun b hb => rowOf_eq (row b hb)
    refine sorted_rows hl.isList (by simpa using hz) hu (fun v hv => ?_) fun out o1 o2 => ?_
    · obtain ⟨b, hb, rfl⟩ := List.mem_map.mp hv
      rw [rowE b hb]
      exact row b hb
    · obtain ⟨bs', rfl, p'⟩ := perm_ref o2
      obtain ⟨ep, he'⟩ := PyProof.Rows.sortedAll_at s.heap (bs.map Value.ref) (bs'.map Value.ref).toArray
      have hlen : (bs'.map V.ref).length ≤ sizeLine := by
        rw [List.length_map, p'.length_eq]
        simpa using hz
      refine ⟨.ref _, upd H (s.heap.objs.size + 1) (.lst (bs'.map V.ref)), I.laid (t' := s.toks) (fun _ _ => PyProof.Rows.sortedAll_old) (Nat.le_succ _) ⟨hlen, bs'.map Value.ref, ep, vals_ref' bs', by simpa using he'⟩, rfl, q bs' _ p' ?_ (I.hok.fresh (Nat.le_succ _))⟩
      rw [Asc, List.pairwise_map] at o1
      refine List.Pairwise.imp_of_mem (fun {b c} hb hc h => ?_) o1
      rw [rowE b (p'.mem_iff.mp hb), rowE c (p'.mem_iff.mp hc)] at h
      exact h
end
/-! the mirror -/
def rowsD : List D → Option (List (List Str))
  | [] => some []
  | .tuple l :: r => (strsD l).bind fun x => (rowsD r).map fun y => x :: y
  | _ :: _ => none
def rowD (l : List Str) : D := .tuple (l.map .str)
theorem rowsD_eq : ∀ {ds : List D} {rs : List (List Str)}, rowsD ds = some rs → ds = rs.map rowD
  | [], _, e => by cases e; rfl
  | d :: ds, rs, e => by
    cases d with
    | tuple l =>
      simp only [rowsD, Option.bind_eq_some_iff, Option.map_eq_some_iff] at e
      obtain ⟨x, e1, y, e2, rfl⟩ := e
      rw [List.map_cons, rowsD_eq e2]
      congr 1
      clear e2
      induction l generalizing x with
      | nil => cases e1; rfl
      | cons d l ih =>
        cases d with
        | str z =>
          simp only [strsD, Option.map_eq_some_iff] at e1
          obtain ⟨m, e1, rfl⟩ := e1
          have := ih m e1
          simp only [rowD, PyData.tuple.injEq] at this
          rw [this]
          rfl
        | _ => cases e1
    | _ => cases e
theorem strsD_map : ∀ xs : List Str, strsD (xs.map .str) = some xs
  | [] => rfl
  | x :: r => by simp [strsD, strsD_map r]
theorem intsD_map : ∀ xs : List Int, intsD (xs.map .int) = some xs
  | [] => rfl
  | x :: r => by simp [intsD, intsD_map r]
theorem rowsD_map : ∀ xs : List (List Str), rowsD (xs.map rowD) = some xs
  | [] => rfl
  | x :: r => by simp [rowsD, rowD, strsD_map, rowsD_map r]
def sortD (ds : List D) : Option (List D) := match strsD ds with
  | some xs => some ((sortL ltS xs).map .str)
  | none => match intsD ds with
    | some xs => some ((sortL ltI xs).map .int)
    | none => (rowsD ds).map fun rs => (sortL (ltX ltS) rs).map rowD
def fSorted (ws : List Vl) (st : S) : R Ob := match ws with
  | [x] => (match (seqOf x st).bind sortD with
    | some ds => .ok (.lst ds) st
    | none => .bad)
  | _ => .bad
section
variable {K : PySem.W.Frag} {A : Wd} {H : Hp}
theorem row_at {v : V} {l : List Str} (r : RV K A H v (rowD l)) : ∃ b, v = .ref b ∧ ¬ A.live b ∧ H b = some (.tup (l.map V.str)) := by
  cases r with
  | tup n h q =>
    refine ⟨_, rfl, n, ?_⟩
    rw [strsD_rv q (strsD_map l)] at h
    exact h
theorem row_of {b : Addr} {l : List Str} (n : ¬ A.live b) (h : H b = some (.tup (l.map V.str))) : RV K A H (.ref b) (rowD l) := .tup n h (rvs_strs l)
open Classical in
noncomputable def rowAt (H : Hp) (b : Addr) : List Str := if e : ∃ l : List Str, H b = some (.tup (l.map V.str)) then Classical.choose e else []
theorem rowAt_eq {b : Addr} {l : List Str} (h : H b = some (.tup (l.map V.str))) : rowAt H b = l := by
  have e : ∃ l : List Str, H b = some (.tup (l.map V.str)) := ⟨l, h⟩
  rw [rowAt, dif_pos e]
  have q2 := HO.tup.inj (Option.some.inj (h.symm.trans (Classical.choose_spec e)))
  have inj : ∀ (a b : List Str), a.map V.str = b.map V.str → a = b := fun a b h => (List.map_inj_right (fun x y e => V.str.inj e)).mp h
  exact (inj _ _ q2).symm
theorem rows_at : ∀ {vs : List V} {rs : List (List Str)}, RVs K A H vs (rs.map rowD) → ∃ bs : List Addr, vs = bs.map V.ref ∧ rs = bs.map (rowAt H) ∧ ∀ b ∈ bs, ¬ A.live b ∧ H b = some (.tup ((rowAt H b).map V.str))
  | _, [], r => by cases r; exact ⟨[], rfl, rfl, fun b hb => by cases hb⟩
  | _, l :: rs, r => by
    cases r with
    | cons a c =>
      obtain ⟨b, rfl, n, h⟩ := row_at a
      obtain ⟨bs, rfl, rfl, g⟩ := rows_at c
      have e := rowAt_eq h
      refine ⟨b :: bs, rfl, by rw [List.map_cons, e], fun x hx => ?_⟩
      rcases List.mem_cons.mp hx with rfl | hx
      · rw [e]; exact ⟨n, h⟩
      · exact g x hx
theorem rvs_rows {kf : Addr → List Str} : ∀ {bs : List Addr}, (∀ b ∈ bs, ¬ A.live b ∧ H b = some (.tup ((kf b).map V.str))) → RVs K A H (bs.map V.ref) ((bs.map kf).map rowD)
  | [], _ => .nil
  | b :: bs, h => .cons (row_of (h b (List.mem_cons_self ..)).1 (h b (List.mem_cons_self ..)).2) (rvs_rows fun c hc => h c (List.mem_cons_of_mem _ hc))
end
theorem sortL_map {α β : Type} {lt : β → β → Bool} (O : LOrd lt) (k : α → β) {bs bs' : List α} (p : bs'.Perm bs) (h : Asc (fun b c => lt (k b) (k c)) bs') : bs'.map k = sortL lt (bs.map k) :=
  asc_sortL O (by rw [Asc, List.pairwise_map]; exact h) (p.map k)
theorem f_sorted {X : Cx} {W : WX} {k : Nat} {e : Expr} {ms : S → R (List Vl)} {p pos : Pos} (hr : Room k X.A) (hm : X.mg "sorted" = none) (ha : AA X W [e] ms) (hg : Gl X "sorted" := by rfl) (he : starEach [e] X.env = (false, eval e X.env) :: starEach [] X.env := by rfl) :
    AF X W (.Call (.Name "sorted" p) [e] [] pos) (mCallF fSorted ms) :=
  PE.imp (pe_callB (cr_sortedAll (by have := hr.un; omega)) hg hm (by decide +kernel) ha (by decide) (by decide) he rfl) fun σ H Q ⟨A, st, sr, q⟩ => ⟨A, st, sr, q.bind.imp fun ws s1 H1 e1 sr1 p1 vs rv => by
    unfold fSorted at p1
    split at p1
    · obtain ⟨v, rfl, rx⟩ := rws1 rv
      split at p1
      · rename_i ds ex
        obtain ⟨es, e2, e3⟩ := Option.bind_eq_some_iff.mp ex
        obtain ⟨a, us, rfl, h2, r2⟩ := seqOf_at sr1 rx e2
        have sz := sq_size sr1 (.inl h2)
        have fin : ∀ {us' : List V} {p : Addr}, RVs X.K A H1 us' ds → us'.length ≤ sizeLine → H1 p = none → Q (.ref p) (upd H1 p (.lst us')) := fun {us' p} r' hz hp =>
          p1 _ (stp_new hp sr1.dj) (sr1.newp (o := .lst us') hp hz) p (e1.back hp) (sr1.new (o := .lst us') hp hz) (ro_newlst hp r')
        unfold sortD at e3
        split at e3
        · rename_i xs hx
          cases e3
          obtain rfl := strsD_rv r2 hx
          refine .inl ⟨a, xs, rfl, h2, fun p hp => fin (rvs_strs _) ?_ hp⟩
          rw [List.length_map, (sortL_perm xs).length_eq]; simpa using sz
        · split at e3
          · rename_i xs hx
            cases e3
            obtain rfl := intsD_rv r2 hx
            refine .inr (.inl ⟨a, xs, rfl, h2, fun p hp => fin (rvs_ints _) ?_ hp⟩)
            rw [List.length_map, (sortL_perm xs).length_eq]; simpa using sz
          · obtain ⟨rs, hx, rfl⟩ := Option.map_eq_some_iff.mp e3
            obtain rfl := rowsD_eq hx
            obtain ⟨bs, rfl, rfl, g⟩ := rows_at r2
            refine .inr (.inr ⟨a, bs, rowAt H1, rfl, h2, fun b hb => .inl (.inl (g b hb).2), fun bs' p p' h' hp => fin ?_ (by rw [List.length_map, p'.length_eq]; simpa using sz) hp⟩)
            rw [← sortL_map (ordX ordS) (rowAt H1) p' h']
            exact rvs_rows fun b hb => g b (p'.mem_iff.mp hb)
      · exact p1.elim
    · exact p1.elim⟩
end RA
set_option Elab.async false
set_option linter.all false
set_option maxRecDepth 100000
set_option maxHeartbeats 4000000
namespace RA
open PySem PySem.Spec PyProof.Rows L2

/-! ### dict(pairs) -/
def putD (kvs : List (Key × D)) (k : Key) (v : D) : List (Key × D) :=
  if (kvs.any fun kv => decide (kv.1 = k)) = true then kvs.map (fun kv => if kv.1 = k then (kv.1, v) else kv) else kvs ++ [(k, v)]
def mergeD (kvs more : List (Key × D)) : List (Key × D) := more.foldl (fun acc kv => putD acc kv.1 kv.2) kvs
def dkk (kvs : List (Key × D)) : List (D × D) := kvs.map fun p => (dKey p.1, p.2)
section
variable {K : PySem.W.Frag} {A : Wd} {H : Hp}
theorem rvk_any {k : Key} : ∀ {kvs : List (Key × V)} {ds : List (Key × D)}, RVk K A H kvs (dkk ds) → (kvs.any fun kv => decide (kv.1 = k)) = ds.any fun kv => decide (kv.1 = k)
  | [], [], _ => rfl
  | _ :: _, [], r => nomatch r
  | [], _ :: _, r => nomatch r
  | p :: kvs, d :: ds, r => by
    cases d with
    | mk j d =>
      unfold dkk at r
      rw [List.map_cons] at r
      generalize ek : dKey (j, d).1 = kk at r
      cases r with
      | cons a b =>
        rename_i j' v'
        have ej : j = j' := dKey_inj ek
        subst ej
        simp only [List.any_cons]
        rw [rvk_any b]
theorem rvk_app : ∀ {kvs : List (Key × V)} {ds : List (D × D)} {l : List (Key × V)} {m : List (D × D)}, RVk K A H kvs ds → RVk K A H l m → RVk K A H (kvs ++ l) (ds ++ m)
  | _, _, _, _, .nil, q => q
  | _, _, _, _, .cons a b, q => .cons a (rvk_app b q)
theorem rvk_set {k : Key} {v : V} {d : D} (rv : RV K A H v d) : ∀ {kvs : List (Key × V)} {ds : List (Key × D)}, RVk K A H kvs (dkk ds) → RVk K A H (kvs.map fun kv => if kv.1 = k then (kv.1, v) else kv) (dkk (ds.map fun kv => if kv.1 = k then (kv.1, d) else kv))
  | [], [], _ => .nil
  | _ :: _, [], r => nomatch r
  | [], _ :: _, r => nomatch r
  | p :: kvs, e :: ds, r => by
    cases e with
    | mk j e =>
      unfold dkk at r
      rw [List.map_cons] at r
      generalize ek : dKey (j, e).1 = kk at r
      cases r with
      | cons a b =>
        rename_i j' v'
        have ej : j = j' := dKey_inj ek
        subst ej
        have ih := rvk_set (k := k) rv b
        simp only [List.map_cons, dkk]
        by_cases h : j = k
        · simp only [h, if_true]
          exact .cons rv ih
        · simp only [h, if_false]
          exact .cons a ih
theorem rvk_put {k : Key} {v : V} {d : D} {kvs : List (Key × V)} {ds : List (Key × D)} (r : RVk K A H kvs (dkk ds)) (rv : RV K A H v d) : RVk K A H (putK kvs k v) (dkk (putD ds k d)) := by
  unfold putK putD
  rw [rvk_any r]
  split
  · exact rvk_set rv r
  · rw [dkk, List.map_append]
    exact rvk_app r (.cons rv .nil)
theorem rvk_merge : ∀ {more : List (Key × V)} {dm : List (Key × D)} {kvs : List (Key × V)} {ds : List (Key × D)}, RVk K A H more (dkk dm) → RVk K A H kvs (dkk ds) → RVk K A H (mergeK kvs more) (dkk (mergeD ds dm))
  | [], [], _, _, _, r => r
  | _ :: _, [], _, _, q, _ => nomatch q
  | [], _ :: _, _, _, q, _ => nomatch q
  | p :: more, e :: dm, kvs, ds, q, r => by
    cases e with
    | mk j e =>
      unfold dkk at q
      rw [List.map_cons] at q
      generalize ek : dKey (j, e).1 = kk at q
      cases q with
      | cons a b =>
        rename_i j' v'
        have ej : j = j' := dKey_inj ek
        subst ej
        show RVk K A H (mergeK (putK kvs j v') more) (dkk (mergeD (putD ds j e) dm))
        exact rvk_merge b (rvk_put r a)
theorem RVk.length : ∀ {kvs : List (Key × V)} {ds : List (D × D)}, RVk K A H kvs ds → kvs.length = ds.length
  | _, _, .nil => rfl
  | _, _, .cons _ b => by simp [RVk.length b]
end
/-- pairs of a key and a value -/
def pairsD : List D → Option (List (Key × D))
  | [] => some []
  | .tuple [k, v] :: r => (keyOf k).bind fun j => (pairsD r).map fun l => (j, v) :: l
  | _ :: _ => none
theorem pairs_at {K : PySem.W.Frag} {A : Wd} {H : Hp} : ∀ {ds : List D} {vs : List V} {prs : List (Key × D)}, RVs K A H vs ds → pairsD ds = some prs →
    ∃ (ps : List Addr) (kvs : List (Key × V)), vs = ps.map V.ref ∧ Paired (fun p kv => SqT K H p [kV kv.1, kv.2]) ps kvs ∧ RVk K A H kvs (dkk prs)
  | [], _, _, r, e => by cases r; cases e; exact ⟨[], [], rfl, .nil, .nil⟩
  | d :: ds, _, prs, r, e => by
    cases r with
    | cons a b =>
      unfold pairsD at e
      split at e
      · rename_i h; cases h
      · rename_i k v r' h
        cases h
        simp only [Option.bind_eq_some_iff, Option.map_eq_some_iff] at e
        obtain ⟨j, e1, l, e2, rfl⟩ := e
        obtain ⟨ps, kvs, rfl, p1, p2⟩ := pairs_at b e2
        obtain ⟨t, us, rfl, t1, t2⟩ := tup_at a
        cases t2 with
        | cons c1 c2 =>
          cases c2 with
          | cons c3 c4 =>
            cases c4
            rw [keyOf_eq e1] at c1
            rw [rv_key c1] at t1
            exact ⟨t :: ps, (j, _) :: kvs, rfl, .cons t1 p1, .cons c3 p2⟩
      · cases e
def fDictP (ws : List Vl) (st : S) : R Ob := match ws with
  | [x] => (match (seqOf x st).bind pairsD with
    | some prs => if prs.length ≤ sizeLine then .ok (.dk (mergeD [] prs)) st else .bad
    | none => .bad)
  | _ => .bad
section
variable {X : Cx} {W : WX} {e b : Expr} {ms : S → R (List Vl)} {mb : S → R Vl} {p pos : Pos}
theorem f_dictP (hm : X.mg "dict" = none) (ha : AA X W [e] ms) (hg : Gl X "dict" := by rfl) (hc : X.calm = true := by rfl) (he : starEach [e] X.env = (false, eval e X.env) :: starEach [] X.env := by rfl) :
    AF X W (.Call (.Name "dict" p) [e] [] pos) (mCallF fDictP ms) :=
  PE.imp (pe_callTy (call_dictP hc) hg hm (by decide +kernel) ha (by decide) (by decide) he rfl) fun σ H Q ⟨A, st, sr, q⟩ => ⟨A, st, sr, q.bind.imp fun ws s1 H1 e1 sr1 p1 vs rv => by
    unfold fDictP at p1
    split at p1
    · obtain ⟨v, rfl, rx⟩ := rws1 rv
      split at p1
      · rename_i prs ex
        obtain ⟨ds, e2, e3⟩ := Option.bind_eq_some_iff.mp ex
        obtain ⟨a, us, rfl, h2, r2⟩ := seqOf_at sr1 rx e2
        obtain ⟨ps, kvs, rfl, g1, g2⟩ := pairs_at r2 e3
        split at p1
        · rename_i hz
          refine ⟨a, ps, kvs, rfl, h2, g1, fun p hp => ?_⟩
          have rk := rvk_merge (kvs := []) (ds := []) g2 .nil
          have hz' : hsz (.dK (mergeK [] kvs)) ≤ sizeLine := by
            show (mergeK [] kvs).length ≤ sizeLine
            refine Nat.le_trans (length_mergeK kvs []) ?_
            rw [g2.length, dkk, List.length_map]
            simpa using hz
          exact p1 _ (stp_new hp sr1.dj) (sr1.newp (o := .dK (mergeK [] kvs)) hp hz') p (e1.back hp) (sr1.new (o := .dK (mergeK [] kvs)) hp hz') ⟨_, upd_same, rk.mono (kp_new hp)⟩
        · exact p1.elim
      · exact p1.elim
    · exact p1.elim⟩
/-! ### d[k], d a dict of the module's own top -/
def ConD (K : PySem.W.Frag) (w : World) (mg : Str → Option Value) (x : Str) (tbl : List (Str × D)) : Prop :=
  ∃ p, mg x = some (.ref p) ∧ ∀ z d, tbl.lookup z = some d → ∃ v, KDct K w p z v ∧ ∀ A H, RV K A H v d
def mKGet (tbl : List (Str × D)) (mb : S → R Vl) : S → R Vl := fun st => (mb st).bind fun y s1 => match y with
  | .d (.str z) => (match tbl.lookup z with
    | some d => .ok (.d d) s1
    | none => .bad)
  | _ => .bad
theorem x_kget {x : Str} {tbl : List (Str × D)} (h : ConD X.K X.w X.mg x tbl) (hb : AE X W b mb) (hg : Gl X x := by rfl) (hd : (x == ("__debug__" : Str)) = false := by decide) (hs : PlainIx b := by exact fun _ _ => rfl) : AE X W (.Subscript (.Name x p) b pos) (mKGet tbl mb) := by
  obtain ⟨q, h1, h2⟩ := h
  refine PE.imp (pe_ix ix_kdict (pe_glob (v := .ref q) hg h1 rfl hd) hb hs) fun σ H Q ⟨A, st, sr, r⟩ => ?_
  unfold mKGet at r
  show tr X.K X.mg W mb σ H _
  refine ⟨A, st, sr, r.bind.imp fun y s1 H1 e1 sr1 p1 v rv => ?_⟩
  dsimp only at p1
  split at p1
  · cases rv
    split at p1
    · rename_i z d hl
      obtain ⟨v, k1, k2⟩ := h2 _ _ hl
      exact ⟨q, _, v, rfl, rfl, k1, p1.here sr1 v (k2 A H1)⟩
    · exact p1.elim
  · exact p1.elim
end
end RA
set_option Elab.async false
set_option linter.all false
set_option maxRecDepth 100000
set_option maxHeartbeats 4000000
namespace RA
open PySem PySem.Spec PyProof.Rows L2

/-! ### the law's own end -/
def spLaw (K : PySem.W.Frag) : Sp := fun vs H Q _ => ∃ (a : Addr) (ns : List Int), vs = [.ref a] ∧ SqL K H a (ns.map V.int) ∧ ns.length ≤ 63 ∧ Only H ∧ ∀ H', Q (.bl true) H'
/-- what is to be shown of the mirror -/
def Good (F : Fn) : Prop := ∀ ns : List Int, ns.length ≤ 63 → ∃ sto, F [.frz (ns.map .int)] [] = .ok (.v (.d (.bool true))) sto
theorem hb_of {P : Program} {w : World} {H : Hp} {h : Heap} (ok : HOk P w H h) : HB H := fun a u e => ObjOk.hsz (ok a u e)
theorem law_ok {P : Program} {w : World} {K : PySem.W.Frag} {mg : Str → Option Value} {base : Heap} {CX : CXT} {k : Nat} {f : Addr} {fd : FuncData} {F : Fn} (G : FnOk P w K mg base CX k f fd ["script"] (spA K mg 1 F)) (pure : Good F) : FnOk P w K mg base CX k f fd ["script"] (spLaw K) where
  len vs H Q E h := by obtain ⟨a, ns, rfl, _⟩ := h; rfl
  run A outer s H args us vs Q E hr e0 hb rv h := by
    obtain ⟨a, ns, rfl, hS, hl, hO, q⟩ := h
    obtain ⟨sto, e⟩ := pure ns hl
    have dj : Dj ⟨[], [], []⟩ H := ⟨fun i j a h => by simp at h, fun i j a h => by simp at h, fun a h => by simp at h, fun a h => by simp at h, fun a h => by simp at h, fun a l => by
      rcases l with l | l | l <;> cases l⟩
    have sr : SR K ⟨[], [], []⟩ H [] ⟨[], []⟩ := ⟨rfl, rfl, rfl, fun i s h => by simp at h, fun n o h => by simp at h, dj, hb_of e0.hok⟩
    have nl : ∀ a, ¬ Wd.live ⟨[], [], []⟩ a := fun a l => by rcases l with l | l | l <;> cases l
    refine G.run A outer s H args us _ Q E hr e0 hb rv ⟨⟨[], [], []⟩, [], [.frz (ns.map .int)], rfl, rfl, sr, .cons ?_ .nil, ?_⟩
    · refine ⟨a, ns.map V.int, rfl, ?_, rvs_ints ns⟩
      rcases hS with hS | hS
      · rcases hS with hS | ⟨o, hS⟩
        · rcases hO a with z | ⟨o, xs, z⟩
          · rw [hS] at z; cases z
          · rw [hS] at z; cases z
        · exact .inl ⟨nl a, o, hS⟩
      · exact .inr hS
    · rw [e]
      intro v H' _ _ rv
      cases rv
      exact q H'
theorem cx_no {P : Program} {w : World} {outer : List Env} {H : Hp} {s : Shared} {e : Value} {s' : Shared} (h : L2.CX P w outer H s (fun _ _ _ => False) e s') : False := by
  obtain ⟨a, B, H', cls, d, _, _, _, _, _, _, _, z⟩ := h
  exact z
/-- a def of the top, by what the top has written -/
noncomputable def fn1 {K : PySem.W.Frag} {mg : Str → Option Value} {x : Str} {st : Stmt} {ps : List Str} {f : Addr} {fd : FuncData} (F : Fun K x x st f fd) (g : mg x = some (.ref f)) (b : L2.Binds K fd ps []) : Fn1 K mg x st ps := ⟨f, fd, F, g, b⟩
theorem con_str {mg : Str → Option Value} {x z : Str} {t : Tok} (h : mg x = some (.str z t)) : Con0 mg x (.str z) := ⟨_, h, t, rfl⟩
theorem con_int {mg : Str → Option Value} {x : Str} {i : Int} {t : Tok} (h : mg x = some (.int i t)) : Con0 mg x (.int i) := ⟨_, h, t, rfl⟩
theorem con_bl {mg : Str → Option Value} {x : Str} {b : Bool} (h : mg x = some (.bool b)) : Con0 mg x (.bl b) := ⟨_, h, rfl⟩
theorem look_nil {α : Type} {p : Str → α → Prop} : ∀ z d, ([] : List (Str × α)).lookup z = some d → p z d := fun z d h => by cases h
theorem look_cons {α : Type} {p : Str → α → Prop} {x : Str} {y : α} {l : List (Str × α)} (h : p x y) (r : ∀ z d, l.lookup z = some d → p z d) : ∀ z d, ((x, y) :: l).lookup z = some d → p z d := fun z d e => by
  rw [List.lookup_cons] at e
  split at e
  · rename_i q
    rw [beq_iff_eq] at q
    cases e
    rw [q]; exact h
  · exact r z d e
end RA
set_option Elab.async false
set_option linter.all false
set_option maxRecDepth 100000
set_option maxHeartbeats 4000000
namespace RA
open PySem PySem.Spec PyProof.Rows L2

/-! ### the mirrors read: what a mirror answers -/
def wp {α : Type} (r : R α) (Q : α → S → Prop) : Prop := ∃ x s, r = .ok x s ∧ Q x s
structure Cs where
  nx : S → Prop
  rt : Rt → S → Prop
  bk : S → Prop := fun _ => False
  ct : S → Prop := fun _ => False
def ws (o : Out) (C : Cs) : Prop := match o with
  | .nx s => C.nx s
  | .rt r s => C.rt r s
  | .bk s => C.bk s
  | .ct s => C.ct s
  | _ => False
def wf (r : FR) (Q : Rt → List Ob → Prop) : Prop := ∃ x s, r = .ok x s ∧ Q x s
section
variable {α β : Type} {st : S} {Q : Vl → S → Prop} {QB : Bool → S → Prop} {QO : Ob → S → Prop} {QL : List Vl → S → Prop} {ma mb : S → R Vl} {t u : S → R Bool} {ms : S → R (List Vl)} {mo : S → R Ob} {C : Cs} {m1' m2' : S → Out}
theorem wp_ok {x : α} {s : S} {Q : α → S → Prop} (h : Q x s) : wp (.ok x s) Q := ⟨x, s, rfl, h⟩
theorem wp_bind {r : R α} {f : α → S → R β} {Q : β → S → Prop} (h : wp r fun x s => wp (f x s) Q) : wp (r.bind f) Q := by
  obtain ⟨x, s, rfl, h⟩ := h
  exact h
theorem wp_nx {r : R α} {Q : α → S → Prop} (h : wp r Q) : wp r.nx Q := by
  obtain ⟨x, s, rfl, h⟩ := h
  exact ⟨x, s, rfl, h⟩
theorem wp_mono {r : R α} {Q Q' : α → S → Prop} (h : wp r Q) (i : ∀ x s, Q x s → Q' x s) : wp r Q' := by
  obtain ⟨x, s, e, h⟩ := h
  exact ⟨x, s, e, i x s h⟩
theorem wf_mono {r : FR} {Q Q' : Rt → List Ob → Prop} (h : wf r Q) (i : ∀ x s, Q x s → Q' x s) : wf r Q' := by
  obtain ⟨x, s, e, h⟩ := h
  exact ⟨x, s, e, i x s h⟩
theorem ws_mono {o : Out} {C C' : Cs} (h : ws o C) (h1 : ∀ s, C.nx s → C'.nx s) (h2 : ∀ r s, C.rt r s → C'.rt r s) (h3 : ∀ s, C.bk s → C'.bk s) (h4 : ∀ s, C.ct s → C'.ct s) : ws o C' := by
  cases o with
  | nx s => exact h1 s h
  | rt r s => exact h2 r s h
  | bk s => exact h3 s h
  | ct s => exact h4 s h
  | exc e s => exact h
  | bad => exact h
theorem ws_out {r : R α} {f : α → S → Out} (h : wp r fun x s => ws (f x s) C) : ws (r.out f) C := by
  obtain ⟨x, s, rfl, h⟩ := h
  exact h
theorem wp_C {x : D} (h : Q (.d x) st) : wp (mC x st) Q := wp_ok h
theorem wp_d {i : Nat} {x : D} (e : st.env[i]? = some (.d x)) (h : Q (.d x) st) : wp (mVar i st) Q := ⟨.d x, st, by unfold mVar; rw [e], h⟩
theorem wp_l {i n : Nat} (e : st.env[i]? = some (.loc n)) (h : Q (.loc n) st) : wp (mVar i st) Q := ⟨.loc n, st, by unfold mVar; rw [e], h⟩
theorem wp_o {i : Nat} {o : Ob} (e : st.env[i]? = some (.own o)) (h : Q (.own i) st) : wp (mVar i st) Q := ⟨.own i, st, by unfold mVar; rw [e], h⟩
theorem wp_f {i : Nat} {ds : List D} (e : st.env[i]? = some (.frz ds)) (h : Q (.frz ds) st) : wp (mVar i st) Q := ⟨.frz ds, st, by unfold mVar; rw [e], h⟩
theorem wp_m2 {f : Vl → Vl → S → R Vl} (h : wp (ma st) fun x s1 => wp (mb s1) fun y s2 => wp (f x y s2) Q) : wp (m2 f ma mb st) Q := wp_bind (wp_mono h fun _ _ h => wp_bind h)
theorem wp_m1 {f : Vl → S → R Vl} (h : wp (ma st) fun x s1 => wp (f x s1) Q) : wp (m1 f ma st) Q := wp_bind h
/-- a test's answer -/
def isB (Q : Bool → S → Prop) (x : Vl) (s : S) : Prop := ∃ b, x = .d (.bool b) ∧ Q b s
theorem wp_B (h : wp (ma st) (isB QB)) : wp (mB ma st) QB := wp_bind (wp_mono h fun x s ⟨b, e, h⟩ => by subst e; exact wp_ok h)
theorem isB_ok {b : Bool} (h : QB b st) : isB QB (.d (.bool b)) st := ⟨b, rfl, h⟩
theorem wp_and (h : wp (t st) fun c s1 => if c = true then wp (u s1) QB else QB false s1) : wp (mAnd t u st) QB := wp_bind (wp_mono h fun c s h => by cases c <;> first | exact wp_ok h | exact h)
theorem wp_or (h : wp (t st) fun c s1 => if c = true then QB true s1 else wp (u s1) QB) : wp (mOr t u st) QB := wp_bind (wp_mono h fun c s h => by cases c <;> first | exact wp_ok h | exact h)
theorem wp_not (h : wp (t st) fun c s1 => QB (!c) s1) : wp (mNot t st) QB := wp_bind (wp_mono h fun c s h => wp_ok h)
theorem wp_andV (h : wp (mB ma st) fun c s1 => if c = true then wp (mb s1) Q else Q (.d (.bool false)) s1) : wp (mAndV ma mb st) Q := wp_bind (wp_mono h fun c s h => by cases c <;> first | exact wp_ok h | exact h)
theorem wp_orV (h : wp (mB ma st) fun c s1 => if c = true then Q (.d (.bool true)) s1 else wp (mb s1) Q) : wp (mOrV ma mb st) Q := wp_bind (wp_mono h fun c s h => by cases c <;> first | exact wp_ok h | exact h)
theorem wp_notV (h : wp (mB ma st) fun c s1 => Q (.d (.bool (!c))) s1) : wp (mNotV ma st) Q := wp_bind (wp_mono h fun c s h => wp_ok h)
theorem wp_if (h : wp (t st) fun c s1 => if c = true then wp (ma s1) Q else wp (mb s1) Q) : wp (mIf t ma mb st) Q := wp_bind (wp_mono h fun c s h => by cases c <;> exact h)
theorem wp_nil (h : QL [] st) : wp (aNil st) QL := wp_ok h
theorem wp_cons (h : wp (ma st) fun x s1 => wp (ms s1) fun xs s2 => QL (x :: xs) s2) : wp (aCons ma ms st) QL := wp_bind (wp_mono h fun _ _ h => wp_bind (wp_mono h fun _ _ h => wp_ok h))
/-- a display of data -/
def isDs (n : Nat) (Q : List D → S → Prop) (ws : List Vl) (s : S) : Prop := ∃ ds, datas ws = some ds ∧ ds.length ≤ sizeLine ∧ Q ds s
theorem wp_tup (h : wp (ms st) (isDs 0 fun ds s => Q (.d (.tuple ds)) s)) : wp (mTup ms st) Q := wp_bind (wp_mono h fun ws s ⟨ds, e, hz, h⟩ => by
  show wp (match datas ws with | some ds => if ds.length ≤ sizeLine then R.ok (Vl.d (.tuple ds)) s else .bad | none => .bad) Q
  rw [e]
  dsimp only
  rw [if_pos hz]
  exact wp_ok h)
theorem wp_lst (h : wp (ms st) (isDs 0 fun ds s => QO (.lst ds) s)) : wp (mLst ms st) QO := wp_bind (wp_mono h fun ws s ⟨ds, e, hz, h⟩ => by
  show wp (match datas ws with | some ds => if ds.length ≤ sizeLine then R.ok (Ob.lst ds) s else .bad | none => .bad) QO
  rw [e]
  dsimp only
  rw [if_pos hz]
  exact wp_ok h)
def isFr (Q : Vl → S → Prop) (o : Ob) (s : S) : Prop := o.frzOk = true ∧ Q (.d o.dat) s
theorem wp_frz (h : wp (mo st) (isFr Q)) : wp (mFrz mo st) Q := wp_bind (wp_mono h fun o s ⟨e, h⟩ => by rw [if_pos e]; exact wp_ok h)
theorem isFr_l {ds : List D} (h : Q (.d (.list ds)) st) : isFr Q (.lst ds) st := ⟨rfl, h⟩
theorem isFr_k {ds : List (Key × D)} (h : Q (.d (.dict (dkk ds))) st) : isFr Q (.dk ds) st := ⟨rfl, h⟩
theorem wp_call {f : List Vl → S → R Vl} (h : wp (ms st) fun ws s => wp (f ws s) Q) : wp (mCall f ms st) Q := wp_bind h
theorem wp_callF {f : List Vl → S → R Ob} (h : wp (ms st) fun ws s => wp (f ws s) QO) : wp (mCallF f ms st) QO := wp_bind h
/-- behind a call of a def -/
def isV (env : List Sl) (Q : Vl → S → Prop) (r : Rt) (sto : List Ob) : Prop := match r with
  | .v w => Q w ⟨env, sto⟩
  | .o ob => ob.frzOk = true ∧ Q (.d ob.dat) ⟨env, sto⟩
def isO (env : List Sl) (Q : Ob → S → Prop) (r : Rt) (sto : List Ob) : Prop := match r with
  | .v w => False
  | .o ob => Q ob ⟨env, sto⟩
theorem isV_v {env : List Sl} {Q : Vl → S → Prop} {w : Vl} {sto : List Ob} (h : Q w ⟨env, sto⟩) : isV env Q (.v w) sto := h
theorem isO_o {env : List Sl} {Q : Ob → S → Prop} {w : Ob} {sto : List Ob} (h : Q w ⟨env, sto⟩) : isO env Q (.o w) sto := h
theorem wp_V {F : Fn} {ws : List Vl} (hn : ws.all notOwn = true) (h : wf (F ws st.sto) (isV st.env Q)) : wp (callV F ws st) Q := by
  obtain ⟨x, s, e, h⟩ := h
  unfold callV
  rw [if_pos hn, e]
  cases x with
  | v w => exact wp_ok h
  | o ob =>
    dsimp only
    rw [if_pos h.1]
    exact wp_ok h.2
theorem wp_O {F : Fn} {ws : List Vl} (hn : ws.all notOwn = true) (h : wf (F ws st.sto) (isO st.env QO)) : wp (callO F ws st) QO := by
  obtain ⟨x, s, e, h⟩ := h
  unfold callO
  rw [if_pos hn, e]
  cases x with
  | v w => exact h.elim
  | o ob => exact wp_ok h
/-! statements -/
theorem ws_nil (h : C.nx st) : ws (sNil st) C := h
theorem ws_seq (h : ws (m1' st) ⟨fun s => ws (m2' s) C, C.rt, C.bk, C.ct⟩) : ws (sSeq m1' m2' st) C := by
  unfold sSeq
  cases e : m1' st with
  | nx s => rw [e] at h; exact h
  | rt r s => rw [e] at h; exact h
  | bk s => rw [e] at h; exact h
  | ct s => rw [e] at h; exact h
  | exc x s => rw [e] at h; exact h
  | bad => rw [e] at h; exact h
theorem ws_expr (h : wp (ma st) fun _ s => C.nx s) : ws (sExpr ma st) C := ws_out h
theorem ws_ret (h : wp (ma st) fun w s => C.rt (.v w) s) : ws (sRet ma st) C := ws_out h
theorem ws_retF (h : wp (mo st) fun w s => C.rt (.o w) s) : ws (sRetF mo st) C := ws_out h
/-- an assignment's value -/
def toSl (i : Nat) (N : S → Prop) (w : Vl) (s : S) : Prop := ∃ l, slOf w = some l ∧ N (s.set i l)
theorem ws_set {i : Nat} (h : wp (ma st) (toSl i C.nx)) : ws (sSet i ma st) C := ws_out (wp_mono h fun w s ⟨l, e, h⟩ => by
  unfold setW
  rw [e]
  exact h)
theorem toSl_d {i : Nat} {N : S → Prop} {x : D} (h : N (st.set i (.d x))) : toSl i N (.d x) st := ⟨_, rfl, h⟩
theorem ws_own {i : Nat} (h : wp (mo st) fun ob s => C.nx (s.set i (.own ob))) : ws (sOwn i mo st) C := ws_out h
theorem ws_loc {i : Nat} (h : wp (mo st) fun ob s => C.nx ⟨s.env.set i (.loc s.sto.length), s.sto ++ [ob]⟩) : ws (sLoc i mo st) C := ws_out h
theorem ws_if (h : wp (t st) fun c s => if c = true then ws (m1' s) C else ws (m2' s) C) : ws (sIf t m1' m2' st) C := ws_out (wp_mono h fun c s h => by cases c <;> exact h)
theorem ws_frz {i : Nat} (h : ws (m1' (st.freeze i)) C) : ws (sFrz i m1' st) C := h
theorem ws_unp {bind : D → S → Option S} (h : wp (ma st) fun w s => ∃ z s2, w = .d z ∧ bind z s = some s2 ∧ C.nx s2) : ws (sUnp bind ma st) C := ws_out (wp_mono h fun w s ⟨z, s2, e, e2, h⟩ => by
  subst e
  dsimp only
  rw [e2]
  exact h)
theorem ws_FF {i j : Nat} {mo mo' : S → R Ob} (h : wp (mo st) fun x s1 => wp (mo' s1) fun y s2 => C.nx ((s2.set j (.own y)).set i (.own x))) : ws (sParFF i j mo mo' st) C := ws_out (wp_mono h fun _ _ h => ws_out h)
theorem ws_FV {i j : Nat} (h : wp (mo st) fun x s1 => wp (mb s1) (toSl j C.nx |> fun q y s2 => toSl j C.nx y (s2.set i (.own x)))) : ws (sParFV i j mo mb st) C := ws_out (wp_mono h fun x _ h => ws_out (wp_mono h fun y s ⟨l, e, h⟩ => by
  unfold setW
  rw [e]
  exact h))
/-! loops -/
theorem ws_while {c : S → R Bool} {body : S → Out} (I : Nat → S → Prop) (h : ∀ n s, I n s → wp (c s) fun b s1 => if b = true then ∃ k, n = k + 1 ∧ ws (body s1) ⟨I k, C.rt, C.nx, I k⟩ else C.nx s1) : ∀ fuel n s, n < fuel → I n s → ws (loopW c body fuel s) C := by
  intro fuel
  induction fuel with
  | zero => intro n s hn; omega
  | succ f ih =>
    intro n s hn hI
    refine ws_out (wp_mono (h n s hI) fun b s1 h1 => ?_)
    cases b with
    | false => exact h1
    | true =>
      obtain ⟨k, rfl, h2⟩ := h1
      show ws (match body s1 with | .nx s2 => loopW c body f s2 | .ct s2 => loopW c body f s2 | .bk s2 => .nx s2 | o => o) C
      cases e : body s1 with
      | nx s2 => rw [e] at h2; exact ih k s2 (by omega) h2
      | ct s2 => rw [e] at h2; exact ih k s2 (by omega) h2
      | bk s2 => rw [e] at h2; exact h2
      | rt r s2 => rw [e] at h2; exact h2
      | exc x s2 => rw [e] at h2; exact h2
      | bad => rw [e] at h2; exact h2
theorem ws_loopS {bind : D → S → Option S} {chk : S → Prop} {body : S → Out} (I : List D → S → Prop) (hc : ∀ xs s, I xs s → chk s) (hd : ∀ s, I [] s → C.nx s)
    (h : ∀ x xs s, I (x :: xs) s → ∃ s1, bind x s = some s1 ∧ ws (body s1) ⟨I xs, C.rt, C.nx, I xs⟩) : ∀ xs s, I xs s → ws (loopS bind chk body xs s) C
  | [], s, hI => by
    unfold loopS
    rw [if_pos (hc _ _ hI)]
    exact hd s hI
  | x :: xs, s, hI => by
    unfold loopS
    rw [if_pos (hc _ _ hI)]
    obtain ⟨s1, e, h2⟩ := h x xs s hI
    rw [e]
    dsimp only
    cases e2 : body s1 with
    | nx s2 => rw [e2] at h2; exact ws_loopS I hc hd h xs s2 h2
    | ct s2 => rw [e2] at h2; exact ws_loopS I hc hd h xs s2 h2
    | bk s2 => rw [e2] at h2; exact h2
    | rt r s2 => rw [e2] at h2; exact h2
    | exc y s2 => rw [e2] at h2; exact h2
    | bad => rw [e2] at h2; exact h2
/-- a for over data that is no object of here -/
theorem ws_for {mi : S → R Src} {bind : D → S → Option S} {body : S → Out} (h : wp (mi st) fun p s => p.fix = false ∧ (∀ s, p.chk s) ∧ ∃ I : List D → S → Prop, I p.items s ∧ (∀ s, I [] s → C.nx s) ∧ ∀ x xs s, I (x :: xs) s → ∃ s1, bind x s = some s1 ∧ ws (body s1) ⟨I xs, C.rt, C.nx, I xs⟩) : ws (sFor mi bind body st) C :=
  ws_out (wp_mono h fun p s ⟨hf, hc, I, h0, hd, hs⟩ => by
    rw [if_neg (by rw [hf]; exact Bool.false_ne_true)]
    exact ws_loopS I (fun _ s _ => hc s) hd hs p.items s h0)
theorem wp_loopC {bind : D → S → Option S} {chk : S → Prop} {tt : S → R Bool} {me : S → R Vl} {vs : List Nat} (I : List D → List D → S → Prop) (hc : ∀ xs ys s, I xs ys s → chk s)
    (h : ∀ x xs ys s, I (x :: xs) ys s → ∃ s1, bind x s = some s1 ∧ wp (tt s1) fun b s2 => if b = true then wp (me s2) fun w s3 => ∃ y, w = .d y ∧ I xs (ys ++ [y]) (s3.wipe vs) else I xs ys (s2.wipe vs)) :
    ∀ xs ys s, I xs ys s → wp (loopC bind chk tt me vs xs s) fun zs s' => I [] (ys ++ zs) s'
  | [], ys, s, hI => by
    unfold loopC
    rw [if_pos (hc _ _ _ hI)]
    exact wp_ok (by rw [List.append_nil]; exact hI)
  | x :: xs, ys, s, hI => by
    unfold loopC
    rw [if_pos (hc _ _ _ hI)]
    obtain ⟨s1, e, h2⟩ := h x xs ys s hI
    rw [e]
    dsimp only
    refine wp_bind (wp_nx (wp_mono h2 fun b s2 h3 => ?_))
    cases b with
    | false => exact wp_loopC I hc h xs ys _ h3
    | true =>
      rw [if_pos rfl] at h3 ⊢
      refine wp_bind (wp_nx (wp_mono h3 fun w s3 ⟨y, e, h4⟩ => ?_))
      subst e
      refine wp_bind (wp_nx (wp_mono (wp_loopC I hc h xs (ys ++ [y]) _ h4) fun zs s4 h5 => ?_))
      exact wp_ok (by rw [List.append_assoc] at h5; exact h5)
/-- a comprehension -/
theorem wp_comp {mi : S → R Src} {bind : D → S → Option S} {tt : S → R Bool} {me : S → R Vl} {vs : List Nat} (h : wp (mi st) fun p s => ∃ I : List D → List D → S → Prop, (∀ xs ys s, I xs ys s → p.chk s) ∧ I p.items [] (s.wipe vs) ∧ (∀ ys s, I [] ys s → QO (.lst ys) s) ∧
    ∀ x xs ys s, I (x :: xs) ys s → ∃ s1, bind x s = some s1 ∧ wp (tt s1) fun b s2 => if b = true then wp (me s2) fun w s3 => ∃ y, w = .d y ∧ I xs (ys ++ [y]) (s3.wipe vs) else I xs ys (s2.wipe vs)) : wp (mComp mi bind tt me vs st) QO :=
  wp_bind (wp_mono h fun p s ⟨I, hc, h0, hd, hs⟩ => wp_bind (wp_nx (wp_mono (wp_loopC I hc hs p.items [] _ h0) fun zs s' h => wp_ok (hd _ _ h))))
end
/-- the end of a def -/
def atEnd (n : Nat) (Q : Rt → List Ob → Prop) (r : Rt) (s : S) : Prop := match r with
  | .v (.d x) => Q (.v (.d x)) (s.sto.take n)
  | .v (.loc j) => j < n ∧ Q (.v (.loc j)) (s.sto.take n)
  | .o ob => Q (.o ob) (s.sto.take n)
  | _ => False
theorem wf_fun {n : Nat} {m : S → Out} {vs : List Vl} {sto : List Ob} {Q : Rt → List Ob → Prop} (h : ws (m (entry n vs sto)) ⟨fun s => Q (.v (.d .none)) (s.sto.take sto.length), atEnd sto.length Q, fun _ => False, fun _ => False⟩) : wf (mFun n m vs sto) Q := by
  unfold mFun
  cases e : m (entry n vs sto) with
  | nx s => rw [e] at h; exact ⟨_, _, rfl, h⟩
  | bk s => rw [e] at h; exact h.elim
  | ct s => rw [e] at h; exact h.elim
  | exc x s => rw [e] at h; exact h.elim
  | bad => rw [e] at h; exact h.elim
  | rt r s =>
    rw [e] at h
    cases r with
    | o ob => exact ⟨_, _, rfl, h⟩
    | v w =>
      cases w with
      | d x => exact ⟨_, _, rfl, h⟩
      | loc j =>
        have h' : j < sto.length ∧ Q (.v (.loc j)) (s.sto.take sto.length) := h
        exact ⟨.v (.loc j), _, by unfold finF; simp only; rw [if_pos h'.1], h'.2⟩
      | own j => exact h.elim
      | frz ds => exact h.elim
      | kt ds => exact h.elim
theorem wp_leaf {α : Type} {r : R α} {x : α} {s : S} {Q : α → S → Prop} (e : r = .ok x s) (h : Q x s) : wp r Q := ⟨x, s, e, h⟩
theorem wp_ite {α : Type} {c : Prop} [Decidable c] {r r' : R α} {Q : α → S → Prop} (h1 : c → wp r Q) (h2 : ¬ c → wp r' Q) : wp (if c then r else r') Q := by
  by_cases h : c
  · rw [if_pos h]; exact h1 h
  · rw [if_neg h]; exact h2 h
theorem if_tt {p q : Prop} (h : p) : if true = true then p else q := h
theorem if_ff {p q : Prop} (h : q) : if false = true then p else q := h
theorem if_t {c : Bool} {p q : Prop} (h1 : c = true → p) (h2 : c = false → q) : if c = true then p else q := by
  cases c with
  | true => exact h1 rfl
  | false => exact h2 rfl
section
variable {st : S} {Q : Vl → S → Prop} {i j : Int}
theorem wp_mod (q : Q (.d (.int (i % j))) st) (h : 0 < j) : wp (opMod (.d (.int i)) (.d (.int j)) st) Q := by
  show wp (if decide (0 < j) = true then _ else _) Q
  rw [if_pos (decide_eq_true h)]
  exact wp_ok q
theorem wp_fdiv (q : Q (.d (.int (i / j))) st) (h : 0 < j) (h2 : j < 1073741824) : wp (opFdiv (.d (.int i)) (.d (.int j)) st) Q := by
  show wp (if decide (0 < j ∧ j < 1073741824) = true then _ else _) Q
  rw [if_pos (decide_eq_true ⟨h, h2⟩)]
  exact wp_ok q
theorem wp_mul (q : Q (.d (.int (i * j))) st) (h : (-(2 ^ 64) < i ∧ i < 2 ^ 64) ∨ (-(2 ^ 64) < j ∧ j < 2 ^ 64)) : wp (opMul (.d (.int i)) (.d (.int j)) st) Q := by
  show wp (if (decide (-(2 ^ 64) < i ∧ i < 2 ^ 64) || decide (-(2 ^ 64) < j ∧ j < 2 ^ 64)) = true then _ else _) Q
  rw [if_pos (by rw [Bool.or_eq_true, decide_eq_true_eq, decide_eq_true_eq]; exact h)]
  exact wp_ok q
theorem eqv_int (i j : Int) : PyData.eqv (.int i) (.int j) = decide (i = j) := by simp only [PyData.eqv]; rfl
theorem eqv_str (i j : Str) : PyData.eqv (.str i) (.str j) = decide (i = j) := by simp only [PyData.eqv]; rfl
theorem wp_addI (q : Q (.d (.int (i + j))) st) : wp (opAdd (.d (.int i)) (.d (.int j)) st) Q := wp_ok q
theorem wp_subI (q : Q (.d (.int (i - j))) st) : wp (opSub (.d (.int i)) (.d (.int j)) st) Q := wp_ok q
theorem wp_ltI (q : Q (.d (.bool (decide (i < j)))) st) : wp (opLt (.d (.int i)) (.d (.int j)) st) Q := wp_ok q
theorem wp_leI (q : Q (.d (.bool (decide (i ≤ j)))) st) : wp (opLe (.d (.int i)) (.d (.int j)) st) Q := wp_ok q
theorem wp_gtI (q : Q (.d (.bool (decide (j < i)))) st) : wp (opGt (.d (.int i)) (.d (.int j)) st) Q := wp_ok q
theorem wp_geI (q : Q (.d (.bool (decide (j ≤ i)))) st) : wp (opGe (.d (.int i)) (.d (.int j)) st) Q := wp_ok q
theorem wp_opI {g : Int → Int → D} (q : Q (.d (g i j)) st) : wp (opI g (.d (.int i)) (.d (.int j)) st) Q := wp_ok q
theorem wp_powI (q : Q (.d (.int (i ^ j.toNat))) st) (h : 0 ≤ j ∧ j ≤ 1000000 ∧ i.natAbs < 2 ^ 64) : wp (opPow (.d (.int i)) (.d (.int j)) st) Q := by
  show wp (if decide (0 ≤ j ∧ j ≤ 1000000 ∧ i.natAbs < 2 ^ 64) = true then _ else _) Q
  rw [if_pos (decide_eq_true h)]
  exact wp_ok q
theorem wp_int (q : Q (.d (.int i)) st) : wp (fInt [.d (.int i)] st) Q := wp_ok q
theorem wp_eqI (q : Q (.d (.bool (decide (i = j)))) st) : wp (opEq (.d (.int i)) (.d (.int j)) st) Q := by
  refine wp_leaf (x := .d (.bool (PyData.eqv (.int i) (.int j)))) (s := st) ?_ (by rw [eqv_int]; exact q)
  rfl
theorem wp_neI (q : Q (.d (.bool (!decide (i = j)))) st) : wp (opNe (.d (.int i)) (.d (.int j)) st) Q := by
  refine wp_leaf (x := .d (.bool (!PyData.eqv (.int i) (.int j)))) (s := st) ?_ (by rw [eqv_int]; exact q)
  rfl
end
section
variable {st : S} {Q : Vl → S → Prop} {C : Cs} {mo mi mv : S → R Vl}
theorem wp_addL {xs ys : List D} (q : Q (.d (.list (xs ++ ys))) st) (h : xs.length + ys.length ≤ sizeLine) : wp (opAdd (.d (.list xs)) (.d (.list ys)) st) Q := by
  show wp (if xs.length + ys.length ≤ sizeLine then _ else _) Q
  rw [if_pos h]
  exact wp_ok q
theorem wp_addT {xs ys : List D} (q : Q (.d (.tuple (xs ++ ys))) st) (h : xs.length + ys.length ≤ sizeLine) : wp (opAdd (.d (.tuple xs)) (.d (.tuple ys)) st) Q := by
  show wp (if xs.length + ys.length ≤ sizeLine then _ else _) Q
  rw [if_pos h]
  exact wp_ok q
theorem wp_ixL {xs : List D} {i : Int} {d : D} (e : atI xs i = some d) (q : Q (.d d) st) : wp (opIx (.d (.list xs)) (.d (.int i)) st) Q := by
  show wp (match atI xs i with | some d => .ok (.d d) st | none => .bad) Q
  rw [e]
  exact wp_ok q
theorem wp_ixT {xs : List D} {i : Int} {d : D} (e : atI xs i = some d) (q : Q (.d d) st) : wp (opIx (.d (.tuple xs)) (.d (.int i)) st) Q := by
  show wp (match atI xs i with | some d => .ok (.d d) st | none => .bad) Q
  rw [e]
  exact wp_ok q
theorem ws_store (h : wp (mv st) fun w s1 => wp (mo s1) fun x s2 => wp (mi s2) fun j s3 => wp (opStore x j w s3) fun _ s4 => C.nx s4) : ws (sStore mv mo mi st) C := ws_out (wp_mono h fun _ _ h => ws_out (wp_mono h fun _ _ h => ws_out (wp_mono h fun _ _ h => ws_out h)))
def isAt (x : Vl) (Q : Int → D → S → Prop) (j : Vl) (s : S) : Prop := ∃ i z, j = .d (.int i) ∧ ((lsOf x s).bind fun ds => atI ds i) = some z ∧ Q i z s
theorem isAt_ok {x : Vl} {Q : Int → D → S → Prop} {i : Int} {z : D} (e : ((lsOf x st).bind fun ds => atI ds i) = some z) (h : Q i z st) : isAt x Q (.d (.int i)) st := ⟨i, z, rfl, e, h⟩
theorem ws_augS {f : Vl → Vl → S → R Vl} (h : wp (mo st) fun x s1 => wp (mi s1) (isAt x fun i z s2 => wp (mv s2) fun w s3 => wp (f (.d z) w s3) fun q s4 => wp (opStore x (.d (.int i)) q s4) fun _ s5 => C.nx s5)) : ws (sAugS f mo mi mv st) C :=
  ws_out (wp_mono h fun x s1 h => ws_out (wp_mono h fun j s2 ⟨i, z, e, e2, h⟩ => by
    subst e
    dsimp only
    rw [e2]
    exact ws_out (wp_mono h fun _ _ h => ws_out (wp_mono h fun _ _ h => ws_out h))))
end
section
variable {st : S} {Q : Vl → S → Prop} {QI : Option Int → S → Prop} {ma : S → R Vl} {ml mh : S → R (Option Int)}
theorem wp_oN (h : QI none st) : wp (oNone st) QI := wp_ok h
def isI (Q : Option Int → S → Prop) (x : Vl) (s : S) : Prop := ∃ i, x = .d (.int i) ∧ Q (some i) s
theorem isI_ok {i : Int} (h : QI (some i) st) : isI QI (.d (.int i)) st := ⟨i, rfl, h⟩
theorem wp_oS (h : wp (ma st) (isI QI)) : wp (oSome ma st) QI := wp_bind (wp_mono h fun x s ⟨i, e, h⟩ => by subst e; exact wp_ok h)
theorem wp_sl (h : wp (ma st) fun x s1 => wp (ml s1) fun l s2 => wp (mh s2) fun h s3 => wp (opSl x l h s3) Q) : wp (mSl ma ml mh st) Q := wp_bind (wp_mono h fun _ _ h => wp_bind (wp_mono h fun _ _ h => wp_bind h))
end
section
variable {st : S}
theorem isDs_ok {n : Nat} {Q : List D → S → Prop} {ws : List Vl} {ds : List D} (e : datas ws = some ds) (hz : ds.length ≤ sizeLine) (h : Q ds st) : isDs n Q ws st := ⟨ds, e, hz, h⟩
end
section
variable {st : S} {Q : Vl → S → Prop} {mo : S → R Vl} {ms : S → R (List Vl)} {chk : Vl → S → Bool} {f : Vl → List Vl → S → R Vl}
def isMt (chk : Vl → S → Bool) (Q : Vl → S → Prop) (x : Vl) (s : S) : Prop := chk x s = true ∧ Q x s
theorem isMt_ok {x : Vl} (e : chk x st = true) (h : Q x st) : isMt chk Q x st := ⟨e, h⟩
theorem wp_mt (h : wp (mo st) (isMt chk fun x s1 => wp (ms s1) fun xs s2 => wp (f x xs s2) Q)) : wp (mMt chk f mo ms st) Q := wp_bind (wp_mono h fun x s ⟨e, h⟩ => by rw [if_pos e]; exact wp_bind h)
theorem wp_mt0 (h : wp (mo st) (isMt chk fun x s1 => wp (f x [] s1) Q)) : wp (mMt0 chk f mo st) Q := wp_bind (wp_mono h fun x s ⟨e, h⟩ => by rw [if_pos e]; exact h)
theorem wp_app {x : Vl} {y : D} {ds : List D} (e : lsOf x st = some ds) (q : Q (.d .none) (st.put x (.lst (ds ++ [y])))) (h : ds.length < sizeLine) : wp (fAppend x [.d y] st) Q := by
  show wp (match lsOf x st with | some ds => if ds.length < sizeLine then .ok (.d .none) (st.put x (.lst (ds ++ [y]))) else .bad | none => .bad) Q
  rw [e]
  dsimp only
  rw [if_pos h]
  exact wp_ok q
theorem wp_ext {x y : Vl} {ds es : List D} (e : lsOf x st = some ds) (e2 : lstOf y st = some es) (q : Q (.d .none) (st.put x (.lst (ds ++ es)))) (h : ds.length + es.length ≤ sizeLine) : wp (fExtend x [y] st) Q := by
  show wp (match lsOf x st, lstOf y st with | some ds, some es => if ds.length + es.length ≤ sizeLine then .ok (.d .none) (st.put x (.lst (ds ++ es))) else .bad | _, _ => .bad) Q
  rw [e, e2]
  dsimp only
  rw [if_pos h]
  exact wp_ok q
theorem wp_popAt {x : Vl} {i : Int} {ds : List D} {y : D} (e : lsOf x st = some ds) (h : 0 ≤ i ∧ i < 2 ^ 63) (e2 : ds[i.toNat]? = some y) (q : Q (.d y) (st.put x (.lst (ds.eraseIdx i.toNat)))) : wp (fPopAt x [.d (.int i)] st) Q := by
  show wp (match lsOf x st with | some ds => if 0 ≤ i ∧ i < 2 ^ 63 then (match ds[i.toNat]? with | some y => .ok (.d y) (st.put x (.lst (ds.eraseIdx i.toNat))) | none => .bad) else .bad | none => .bad) Q
  rw [e]
  dsimp only
  rw [if_pos h, e2]
  exact wp_ok q
/-- x == y of data -/
theorem wp_eqD {x y : Vl} {d e : D} (h1 : datOf x st = some d) (h2 : datOf y st = some e) (q : Q (.d (.bool (PyData.eqv d e))) st) (s1 : SeqAt.shaped d = true) (s2 : SeqAt.shaped e = true) : wp (opEq x y st) Q := by
  show wp (match datOf x st, datOf y st with | some d, some e => if SeqAt.shaped d = true ∧ SeqAt.shaped e = true then .ok (.d (.bool (id (PyData.eqv d e)))) st else .bad | _, _ => .bad) Q
  rw [h1, h2]
  dsimp only
  rw [if_pos ⟨s1, s2⟩]
  exact wp_ok q
theorem wp_neD {x y : Vl} {d e : D} (h1 : datOf x st = some d) (h2 : datOf y st = some e) (q : Q (.d (.bool (!PyData.eqv d e))) st) (s1 : SeqAt.shaped d = true) (s2 : SeqAt.shaped e = true) : wp (opNe x y st) Q := by
  show wp (match datOf x st, datOf y st with | some d, some e => if SeqAt.shaped d = true ∧ SeqAt.shaped e = true then .ok (.d (.bool (!PyData.eqv d e))) st else .bad | _, _ => .bad) Q
  rw [h1, h2]
  dsimp only
  rw [if_pos ⟨s1, s2⟩]
  exact wp_ok q
end
/-- x in y -/
def Mem (y : D) (p : Str → Bool) : Prop := ∀ (x : Str) (st : S), opIn (.d (.str x)) (.d y) st = .ok (.d (.bool (p x))) st
theorem flat_strs (xs : List Str) : (xs.map PyData.str).all flatD = true := by simp [flatD]
theorem any_strs (xs : List Str) (x : Str) : ((xs.map PyData.str).any fun z => PyData.eqv z (.str x)) = decide (x ∈ xs) := by
  induction xs with
  | nil => rfl
  | cons y xs ih =>
    rw [List.map_cons, List.any_cons, ih, eqv_str]
    by_cases h : y = x
    · simp [h]
    · simp [h, Ne.symm h]
theorem mem_list (xs : List Str) : Mem (.list (xs.map .str)) fun x => decide (x ∈ xs) := fun x st => by
  have e : inD (.str x) (.d (.list (xs.map .str))) st = some (decide (x ∈ xs)) := by
    show (if ((xs.map PyData.str).all flatD = true ∧ flatD (.str x) = true) ∨ _ then some ((xs.map PyData.str).any fun z => PyData.eqv z (.str x)) else none) = _
    rw [if_pos (.inl ⟨flat_strs xs, rfl⟩), any_strs]
  show (match inD (.str x) (.d (.list (xs.map .str))) st with | some b => R.ok (Vl.d (.bool (id b))) st | none => .bad) = _
  rw [e]
  rfl
theorem mem_tup (xs : List Str) : Mem (.tuple (xs.map .str)) fun x => decide (x ∈ xs) := fun x st => by
  have e : inD (.str x) (.d (.tuple (xs.map .str))) st = some (decide (x ∈ xs)) := by
    show (if (xs.map PyData.str).all flatD = true ∧ flatD (.str x) = true then some ((xs.map PyData.str).any fun z => PyData.eqv z (.str x)) else none) = _
    rw [if_pos ⟨flat_strs xs, rfl⟩, any_strs]
  show (match inD (.str x) (.d (.tuple (xs.map .str))) st with | some b => R.ok (Vl.d (.bool (id b))) st | none => .bad) = _
  rw [e]
  rfl
theorem wp_in {st : S} {Q : Vl → S → Prop} {y : D} {p : Str → Bool} {x : Str} (h : Mem y p) (q : Q (.d (.bool (p x))) st) : wp (opIn (.d (.str x)) (.d y) st) Q := wp_leaf (h x st) q
theorem wp_nin {st : S} {Q : Vl → S → Prop} {y : D} {p : Str → Bool} {x : Str} (h : Mem y p) (q : Q (.d (.bool (!p x))) st) : wp (opNotIn (.d (.str x)) (.d y) st) Q := by
  have e := h x st
  refine wp_leaf (x := .d (.bool (!p x))) (s := st) ?_ q
  show (match inD (.str x) (.d y) st with | some b => R.ok (Vl.d (.bool (!b))) st | none => .bad) = _
  have e' : (match inD (.str x) (.d y) st with | some b => R.ok (Vl.d (.bool (id b))) st | none => .bad) = .ok (.d (.bool (p x))) st := e
  cases hi : inD (.str x) (.d y) st with
  | none => rw [hi] at e'; cases e'
  | some b =>
    rw [hi] at e'
    injection e' with e1 _
    injection e1 with e1
    injection e1 with e1
    subst e1
    rfl
theorem wp_eqS {st : S} {Q : Vl → S → Prop} {i j : Str} (q : Q (.d (.bool (decide (i = j)))) st) (h1 : SeqAt.shaped (.str i) = true) (h2 : SeqAt.shaped (.str j) = true) : wp (opEq (.d (.str i)) (.d (.str j)) st) Q := wp_eqD rfl rfl (by rw [eqv_str]; exact q) h1 h2
theorem wp_neS {st : S} {Q : Vl → S → Prop} {i j : Str} (q : Q (.d (.bool (!decide (i = j)))) st) (h1 : SeqAt.shaped (.str i) = true) (h2 : SeqAt.shaped (.str j) = true) : wp (opNe (.d (.str i)) (.d (.str j)) st) Q := wp_neD rfl rfl (by rw [eqv_str]; exact q) h1 h2
/-! data that may be compared -/
def Sh (d : D) : Prop := d.canLay0 = true ∧ d.depth ≤ 60
theorem sh_list : ∀ {ds : List D}, (∀ d ∈ ds, Sh d) → PyData.canLayAll0 ds = true ∧ PyData.depthAll ds ≤ 60
  | [], _ => ⟨by simp [PyData.canLayAll0], by simp [PyData.depthAll]⟩
  | d :: ds, h => by
    obtain ⟨a, b⟩ := sh_list fun e he => h e (List.mem_cons_of_mem _ he)
    obtain ⟨c, e⟩ := h d (List.mem_cons_self ..)
    refine ⟨by simp [PyData.canLayAll0, a, c], ?_⟩
    simp only [PyData.depthAll]
    exact Nat.max_le.mpr ⟨e, b⟩
theorem sh_shaped {d : D} (h : Sh d) : SeqAt.shaped d = true := by
  unfold SeqAt.shaped
  rw [h.1, Bool.true_and, decide_eq_true_eq]
  exact Nat.le_trans h.2 (by decide)
theorem shl_shaped {ds : List D} (h : ∀ d ∈ ds, Sh d) : SeqAt.shaped (.list ds) = true := by
  obtain ⟨a, b⟩ := sh_list h
  unfold SeqAt.shaped
  have e : (PyData.depthAll ds + 1 ≤ 64) := by omega
  simp only [PyData.canLay0, PyData.depth, a, Bool.true_and]
  exact decide_eq_true e
theorem sht_shaped {ds : List D} (h : ∀ d ∈ ds, Sh d) : SeqAt.shaped (.tuple ds) = true := by
  obtain ⟨a, b⟩ := sh_list h
  unfold SeqAt.shaped
  have e : (PyData.depthAll ds + 1 ≤ 64) := by omega
  simp only [PyData.canLay0, PyData.depth, a, Bool.true_and]
  exact decide_eq_true e
def isKG (tbl : List (Str × D)) (Q : Vl → S → Prop) (y : Vl) (s : S) : Prop := ∃ z d, y = .d (.str z) ∧ tbl.lookup z = some d ∧ Q (.d d) s
theorem wp_kget {st : S} {Q : Vl → S → Prop} {tbl : List (Str × D)} {mb : S → R Vl} (h : wp (mb st) (isKG tbl Q)) : wp (mKGet tbl mb st) Q := wp_bind (wp_mono h fun y s ⟨z, d, e, e2, h⟩ => by
  subst e
  dsimp only
  rw [e2]
  exact wp_ok h)
theorem isKG_ok {st : S} {Q : Vl → S → Prop} {tbl : List (Str × D)} {z : Str} {d : D} (e : tbl.lookup z = some d) (h : Q (.d d) st) : isKG tbl Q (.d (.str z)) st := ⟨z, d, rfl, e, h⟩
theorem wp_enumL {st : S} {Q : Src → S → Prop} {ds : List D} (h : Q ⟨pairD (numD ds.length) ds, always, false⟩ st) : wp (fEnum (.d (.list ds)) st) Q := wp_ok h
theorem wp_itemL {st : S} {Q : Src → S → Prop} {ds : List D} (h : Q ⟨ds, always, false⟩ st) : wp (fItems (.d (.list ds)) st) Q := wp_ok h
theorem wp_itemT {st : S} {Q : Src → S → Prop} {ds : List D} (h : Q ⟨ds, always, false⟩ st) : wp (fItems (.d (.tuple ds)) st) Q := wp_ok h
/-- a, b = x, y of a new object -/
theorem ws_VF {st : S} {C : Cs} {i j : Nat} {ma : S → R Vl} {mo : S → R Ob} (h : wp (ma st) fun x s1 => wp (mo s1) fun y s2 => toSl i C.nx x (s2.set j (.own y))) : ws (sParVF i j ma mo st) C := ws_out (wp_mono h fun x _ h => ws_out (wp_mono h fun y s ⟨l, e, h⟩ => by
  unfold setW
  rw [e]
  exact h))
def prs : Nat → List D → List D
  | _, [] => []
  | k, d :: ds => .tuple [.int k, d] :: prs (k + 1) ds
theorem pair_prs_at : ∀ (ds : List D) (k n : Nat), n = ds.length → pairD ((List.range' k n).map fun i : Nat => .int (i : Nat)) ds = prs k ds
  | [], k, n, h => by subst h; rfl
  | d :: ds, k, n, h => by
    subst h
    rw [List.length_cons, List.range'_succ, List.map_cons]
    show _ :: pairD _ ds = _
    rw [pair_prs_at ds (k + 1) ds.length rfl]
    rfl
theorem pair_prs (ds : List D) : pairD (numD ds.length) ds = prs 0 ds := by
  rw [← pair_prs_at ds 0 ds.length rfl, numD, List.range_eq_range']
theorem ws_aug {st : S} {C : Cs} {i : Nat} {x : D} {f : Vl → Vl → S → R Vl} {ma : S → R Vl} (e : st.env[i]? = some (.d x)) (h : wp (ma st) fun w s1 => wp (f (.d x) w s1) (toSl i C.nx)) : ws (sAug i f ma st) C := by
  unfold sAug
  rw [e]
  exact ws_out (wp_mono h fun w s1 h => ws_out (wp_mono h fun z s2 ⟨l, e, h⟩ => by
    unfold setW
    rw [e]
    exact h))
theorem wp_neB {st : S} {Q : Vl → S → Prop} {b c : Bool} (q : Q (.d (.bool (!(b == c)))) st) : wp (opNe (.d (.bool b)) (.d (.bool c)) st) Q := by
  refine wp_neD (d := .bool b) (e := .bool c) rfl rfl ?_ (by cases b <;> decide) (by cases c <;> decide)
  have : PyData.eqv (.bool b) (.bool c) = (b == c) := by simp only [PyData.eqv]
  rw [this]
  exact q
theorem wp_eqB {st : S} {Q : Vl → S → Prop} {b c : Bool} (q : Q (.d (.bool (b == c))) st) : wp (opEq (.d (.bool b)) (.d (.bool c)) st) Q := by
  refine wp_eqD (d := .bool b) (e := .bool c) rfl rfl ?_ (by cases b <;> decide) (by cases c <;> decide)
  have : PyData.eqv (.bool b) (.bool c) = (b == c) := by simp only [PyData.eqv]
  rw [this]
  exact q
theorem wp_isi {st : S} {Q : Vl → S → Prop} {g : D → Bool} {d : D} (h : noT d = true) (q : Q (.d (.bool (g d))) st) : wp (fIsi g (.d d) st) Q := by
  show wp (if noT d = true then _ else _) Q
  rw [if_pos h]
  exact wp_ok q
/-- a comprehension over the readings of a list -/
theorem wp_compA {α : Type} {st : S} {QO : Ob → S → Prop} {mi : S → R Src} {bind : D → S → Option S} {tt : S → R Bool} {me : S → R Vl} {vs : List Nat} (L : List α) (e : α → D) (keep : α → Bool) (g : α → D)
    (h : wp (mi st) fun p s => (∀ s, p.chk s) ∧ p.items = L.map e ∧ (∀ a ∈ L, ∃ s1, bind (e a) (s.wipe vs) = some s1 ∧ wp (tt s1) fun b s2 => b = keep a ∧ if b = true then wp (me s2) fun w s3 => w = .d (g a) ∧ s3.wipe vs = s.wipe vs else s2.wipe vs = s.wipe vs) ∧ QO (.lst ((L.filter keep).map g)) (s.wipe vs)) : wp (mComp mi bind tt me vs st) QO := by
  refine wp_comp (wp_mono h fun p s ⟨hc, hi, hs, hq⟩ => ?_)
  refine ⟨fun xs ys s' => s' = s.wipe vs ∧ ∃ L1 L2, L = L1 ++ L2 ∧ xs = L2.map e ∧ ys = (L1.filter keep).map g, fun _ _ s _ => hc s, ⟨rfl, [], L, rfl, hi, rfl⟩, ?_, ?_⟩
  · rintro ys s' ⟨rfl, L1, L2, rfl, e2, rfl⟩
    have : L2 = [] := List.map_eq_nil_iff.mp e2.symm
    subst this
    rw [List.append_nil] at hq
    exact hq
  · rintro x xs ys s' ⟨rfl, L1, L2, rfl, e2, rfl⟩
    cases L2 with
    | nil => cases e2
    | cons a L2 =>
      simp only [List.map_cons, List.cons.injEq] at e2
      obtain ⟨rfl, rfl⟩ := e2
      obtain ⟨s1, e3, h1⟩ := hs a (by simp)
      refine ⟨s1, e3, wp_mono h1 fun b s2 ⟨hb, h2⟩ => ?_⟩
      cases b with
      | true =>
        rw [if_pos rfl] at h2 ⊢
        exact wp_mono h2 fun w s3 ⟨hw, hs3⟩ => ⟨g a, hw, hs3, L1 ++ [a], L2, by simp, rfl, by simp [List.filter_append, ← hb]⟩
      | false =>
        rw [if_neg Bool.false_ne_true] at h2 ⊢
        exact ⟨h2, L1 ++ [a], L2, by simp, rfl, by simp [List.filter_append, ← hb]⟩
section
variable {st : S} {Q : Src → S → Prop} {ms : S → R (List Vl)} {ma : S → R Vl}
theorem wp_src {f : List Vl → S → R Src} (h : wp (ms st) fun ws s => wp (f ws s) Q) : wp (mSrc f ms st) Q := wp_bind h
theorem wp_items (h : wp (ma st) fun x s => wp (fItems x s) Q) : wp (mItems ma st) Q := wp_bind h
theorem wp_enum (h : wp (ma st) fun x s => wp (fEnum x s) Q) : wp (mEnum ma st) Q := wp_bind h
theorem wp_range1 {j : Int} (q : Q ⟨rangeD 0 j.toNat, always, false⟩ st) (h : 0 ≤ j ∧ j ≤ 1000) : wp (fRange1 [.d (.int j)] st) Q := by
  show wp (if -(2 ^ 62) ≤ j ∧ j < 2 ^ 62 ∧ j.toNat ≤ sizeLine then _ else _) Q
  rw [if_pos ⟨by omega, by omega, Nat.le_trans (show j.toNat ≤ 1000 by omega) (by decide)⟩]
  exact wp_ok q
theorem wp_yes {Q : Bool → S → Prop} (h : Q true st) : wp (tYes1 st) Q := wp_ok h
end
theorem ws_cut {st : S} {m1 m2 : S → Out} {C : Cs} (P : S → Prop) (h : ws (m1 st) ⟨P, C.rt, C.bk, C.ct⟩) (g : ∀ s, P s → ws (m2 s) C) : ws (sSeq m1 m2 st) C := ws_seq (ws_mono h g (fun _ _ h => h) (fun _ h => h) fun _ h => h)
/-! ### the bag of a law -/
def bagO (a b c : Int) (cs : List Int) : Ob := .lst [.int a, .int b, .int c, .list (cs.map .int)]
def Bag (o : Ob) : Prop := ∃ a b c cs, o = bagO a b c cs ∧ 0 ≤ a ∧ 0 ≤ b ∧ 0 ≤ c ∧ (∀ x ∈ cs, 0 ≤ x) ∧ cs.length ≤ 63
end RA
set_option Elab.async false
set_option linter.all false
set_option maxRecDepth 100000
set_option maxHeartbeats 400000
namespace RA
open PySem PySem.Spec PyProof.Rows L2
/-! {k: v for target in iter if ..}: keys whole numbers or texts -/
open Classical in
noncomputable def loopDC (bind : D → S → Option S) (chk : S → Prop) (tt : S → R Bool) (mk me : S → R Vl) (vs : List Nat) : List D → List (Key × D) → S → R (List (Key × D))
  | [], acc, st => if chk st then .ok acc st else .bad
  | x :: xs, acc, st => if chk st then (match bind x st with
    | none => .bad
    | some s1 => (tt s1).nx.bind fun b s2 => if b = true then (mk s2).nx.bind fun w s3 => (me s3).nx.bind fun z s4 => (match w, z with
        | .d k, .d y => (match keyOf k with
          | some j => loopDC bind chk tt mk me vs xs (putD acc j y) (s4.wipe vs)
          | none => .bad)
        | _, _ => .bad) else loopDC bind chk tt mk me vs xs acc (s2.wipe vs)) else .bad
noncomputable def mDictC (mi : S → R Src) (bind : D → S → Option S) (tt : S → R Bool) (mk me : S → R Vl) (vs : List Nat) : S → R Ob := fun st =>
  (mi st).bind fun p s1 => (loopDC bind p.chk tt mk me vs p.items [] (s1.wipe vs)).nx.bind fun kvs s2 => .ok (.dk kvs) s2
theorem tr_dc {K : PySem.W.Frag} {mg : Str → Option Value} {W : WX} {mi : S → R Src} {bind : D → S → Option S} {is vs : List Nat} {tt : S → R Bool} {mk me : S → R Vl} (hv : ∀ i ∈ is, i ∈ vs) {σ : L2.St} {H : Hp} {Q : VK}
    (h : trF K mg W (mDictC mi bind tt mk me vs) σ H Q) : tDc (trI K mg W mi) (trG K bind is) (trT K mg (fun _ _ _ _ => False) tt) (tr K mg (fun _ _ _ _ => False) mk) (tr K mg (fun _ _ _ _ => False) me) vs σ H Q := by
  obtain ⟨A, st0, sr0, p0⟩ := h
  exact ⟨A, st0, sr0, (PostX.bind p0).imp fun src s1 H1 e1 sr1 p1 J ok D nD => by
    cases el : loopDC bind src.chk tt mk me vs src.items [] (s1.wipe vs) with
    | exc x s => rw [el] at p1; exact p1.elim
    | bad => rw [el] at p1; exact p1.elim
    | ok ys s2 =>
      rw [el] at p1
      have hD : D ∈ (A.push D).T := List.mem_cons_self
      have nl : ¬ A.live D := nlive sr1 nD
      have kpD : ∀ {H2}, Stp A H1 H2 → Kp A H1 (A.push D) H2 := fun e => ⟨e.keep, fun b l => (live_push.mp l).elim (fun z => .inr (z ▸ nD)) .inl⟩
      refine ⟨fun i m H2 => ∃ st accV accD, m = src.items.length - i ∧ i ≤ src.items.length ∧ Stp A H1 H2 ∧ SR K (A.push D) H2 (L2.wipe σ vs) st ∧ H2 D = some (.dK accV) ∧
        RVk K (A.push D) H2 accV (dkk accD) ∧ accV.length ≤ i ∧ loopDC bind src.chk tt mk me vs (src.items.drop i) accD st = .ok ys s2,
        ⟨src.items.length, s1.wipe vs, [], [], by simp, Nat.zero_le _, stp_new nD sr1.dj, (sr1.new (o := .dK []) nD (Nat.zero_le _)).wiped vs, upd_same, .nil, Nat.le_refl _, by rw [List.drop_zero]; exact el⟩, ?_⟩
      rintro i m H2 ⟨st, accV, accD, rfl, hi, e2, sr2, hD2, rvs, hacc, eq⟩
      by_cases hlt : i < src.items.length
      · rw [List.drop_eq_getElem_cons hlt] at eq
        simp only [loopDC] at eq
        split at eq
        · rename_i hk
          refine .inr ⟨ok.go i _ H2 _ st hlt (kpD e2) (fun _ => ⟨rfl, rfl⟩) sr2 hk, _, fun H' h => ⟨src.items.length - (i + 1), by omega, h⟩, fun x H' y => ?_⟩
          obtain ⟨e3, sr3, d, hd, rv⟩ := ok.yld i _ H2 _ st x H' hlt (kpD e2) (fun _ => ⟨rfl, rfl⟩) sr2 hk y
          rw [List.getElem?_eq_getElem hlt] at hd
          cases hd
          refine ⟨A.push D, st, _, sr3, rv, ?_⟩
          split at eq
          · cases eq
          · rename_i st1 hb
            rw [hb]
            intro σ4 sr4 so4
            have hw : L2.wipe σ4 vs = L2.wipe σ vs := wipe_of_setOn so4 hv
            refine ⟨hw, ?_⟩
            obtain ⟨b, sb, et, eq⟩ := R.nx_inv eq
            refine ⟨A.push D, st1, sr4, ?_⟩
            rw [et]
            intro H5 e5 sr5
            have rvs5 : RVk K (A.push D) H5 accV (dkk accD) := (rvs.mono e3.kp).mono e5.kp
            have hD5 : H5 D = some (.dK accV) := (e5.keepT D hD).trans ((e3.keepT D hD).trans hD2)
            have e25 : Stp A H1 H5 := e2.trans ((e3.trans e5).pop nl ((e5.keepT D hD).trans (e3.keepT D hD)))
            cases b with
            | false =>
              exact ⟨sb.wipe vs, accV, accD, rfl, hlt, e25, by rw [← hw]; exact sr5.wiped vs, hD5, rvs5, by omega, eq⟩
            | true =>
              obtain ⟨w, sw, em, eq⟩ := R.nx_inv eq
              refine ⟨A.push D, sb, sr5, ?_⟩
              rw [em]
              intro H6 e6 sr6 v rv6
              obtain ⟨z, sz, en, eq7⟩ := R.nx_inv eq
              clear eq
              refine ⟨A.push D, sw, sr6, ?_⟩
              rw [en]
              intro H7 e7 sr7 u rv7
              have hD7 : H7 D = some (.dK accV) := (e7.keepT D hD).trans ((e6.keepT D hD).trans hD5)
              have rvs7 : RVk K (A.push D) H7 accV (dkk accD) := (rvs5.mono e6.kp).mono e7.kp
              have hl : accV.length < sizeLine := by
                have := ok.sz
                omega
              cases w with
              | d kd =>
                cases z with
                | d y =>
                  dsimp only at eq7
                  split at eq7
                  · rename_i j hj
                    have := keyOf_eq hj
                    subst this
                    have hv2 := rv_key (A := A.push D) (H := H6) (K := K) (v := v) rv6
                    subst hv2
                    have hp : (putK accV j u).length ≤ accV.length + 1 := length_putK ..
                    refine ⟨accV, j, rfl, hD7, hl, sz.wipe vs, putK accV j u, putD accD j y, rfl, hlt, ?_, ?_, upd_same, ?_, by omega, eq7⟩
                    · exact Stp.updN (e25.trans ((e6.trans e7).pop nl ((e7.keepT D hD).trans (e6.keepT D hD)))) sr1.dj nD
                    · exact SR.updT (by rw [← hw]; exact sr7.wiped vs) hD (show (putK accV j u).length ≤ sizeLine by omega)
                    · exact (rvk_put rvs7 rv7).mono (kp_updT hD)
                  · cases eq7
                | loc n => cases eq7
                | own n => cases eq7
                | frz n => cases eq7
                | kt n => cases eq7
              | loc n => cases eq7
              | own n => cases eq7
              | frz n => cases eq7
              | kt n => cases eq7
        · cases eq
      · have hie : i = src.items.length := by omega
        subst hie
        rw [List.drop_length] at eq
        simp only [loopDC] at eq
        split at eq
        · rename_i hk
          cases eq
          have sr6 := sr2.unwipe
          exact .inl ⟨ok.stop _ H2 _ _ (kpD e2) (fun _ => ⟨rfl, rfl⟩) sr2 hk, p1 H2 e2 sr6.pop D (e1.back nD) sr6 ⟨accV, hD2, rvs⟩⟩
        · cases eq⟩
theorem af_dc {X : Cx} {W : WX} {kx vx tg iter : Expr} {ifs : List Expr} {scope : Scope} {own : List (Str × Nat)} {pos : Pos} {mi : S → R Src} {bind : D → S → Option S} {is : List Nat} {tt : S → R Bool} {mk me : S → R Vl}
    (hc : X.calm = true) (hN : X.N.Nodup) (hi : AI X W tg iter mi) (ok : BlkOk X.N X.env.scope scope own)
    (hg : ∀ (s : Shared) (H : Hp) (C : Addr) (cl : List (Str × Addr)) (fp : List Addr), AG (X.blk s H scope (compEnvC scope cl C X.env) fp) tg bind is)
    (ht : ∀ (s : Shared) (H : Hp) (C : Addr) (cl : List (Str × Addr)) (fp : List Addr), PTs (X.blk s H scope (compEnvC scope cl C X.env) fp) ifs (trT X.K X.mg (fun _ _ _ _ => False) tt))
    (hk : ∀ (s : Shared) (H : Hp) (C : Addr) (cl : List (Str × Addr)) (fp : List Addr), AE (X.blk s H scope (compEnvC scope cl C X.env) fp) (fun _ _ _ _ => False) kx mk)
    (he : ∀ (s : Shared) (H : Hp) (C : Addr) (cl : List (Str × Addr)) (fp : List Addr), AE (X.blk s H scope (compEnvC scope cl C X.env) fp) (fun _ _ _ _ => False) vx me)
    (hv : ∀ i ∈ is, i ∈ own.map (·.2)) (hs : ∀ x, foldedSetIterable iter X.env x = pure x := by intro _; rfl) :
    AF X W (.DictComp kx vx [⟨tg, iter, ifs, 0⟩] scope pos) (mDictC mi bind tt mk me (own.map (·.2))) :=
  PE.imp (pe_dc hc hN hi ok hg ht hk he hs) fun σ H Q h => tr_dc hv h
section
variable {X : Cx} {W : WX} {kx vx tg iter c : Expr} {scope : Scope} {pos p : Pos} {mi : S → R Src} {bind : D → S → Option S} {is : List Nat} {t : S → R Bool} {mk me : S → R Vl}
theorem f_dc (own : List (Str × Nat)) (hN : X.N.Nodup) (hi : AI X W tg iter mi) (ok : BlkOk X.N X.env.scope scope own)
    (hg : ∀ (s : Shared) (H : Hp) (C : Addr) (cl : List (Str × Addr)) (fp : List Addr), AG (X.blk s H scope (compEnvC scope cl C X.env) fp) tg bind is)
    (hk : ∀ (s : Shared) (H : Hp) (C : Addr) (cl : List (Str × Addr)) (fp : List Addr), AE (X.blk s H scope (compEnvC scope cl C X.env) fp) (fun _ _ _ _ => False) kx mk)
    (he : ∀ (s : Shared) (H : Hp) (C : Addr) (cl : List (Str × Addr)) (fp : List Addr), AE (X.blk s H scope (compEnvC scope cl C X.env) fp) (fun _ _ _ _ => False) vx me)
    (hv : ∀ i ∈ is, i ∈ own.map (·.2)) (hc : X.calm = true := by rfl) (hs : ∀ x, foldedSetIterable iter X.env x = pure x := by intro _; rfl) :
    AF X W (.DictComp kx vx [⟨tg, iter, [], 0⟩] scope pos) (mDictC mi bind (fun st => .ok true st) mk me (own.map (·.2))) :=
  af_dc hc hN hi ok hg (fun _ _ _ _ _ => ⟨fun pins s σ H Q I ⟨A, st, sr, q⟩ => pts_nil.run pins s σ H Q I (q.here sr)⟩) hk he hv hs
theorem f_dcIf (own : List (Str × Nat)) (hN : X.N.Nodup) (hi : AI X W tg iter mi) (ok : BlkOk X.N X.env.scope scope own)
    (hg : ∀ (s : Shared) (H : Hp) (C : Addr) (cl : List (Str × Addr)) (fp : List Addr), AG (X.blk s H scope (compEnvC scope cl C X.env) fp) tg bind is)
    (ht : ∀ (s : Shared) (H : Hp) (C : Addr) (cl : List (Str × Addr)) (fp : List Addr), AT (X.blk s H scope (compEnvC scope cl C X.env) fp) (fun _ _ _ _ => False) c t)
    (hk : ∀ (s : Shared) (H : Hp) (C : Addr) (cl : List (Str × Addr)) (fp : List Addr), AE (X.blk s H scope (compEnvC scope cl C X.env) fp) (fun _ _ _ _ => False) kx mk)
    (he : ∀ (s : Shared) (H : Hp) (C : Addr) (cl : List (Str × Addr)) (fp : List Addr), AE (X.blk s H scope (compEnvC scope cl C X.env) fp) (fun _ _ _ _ => False) vx me)
    (hv : ∀ i ∈ is, i ∈ own.map (·.2)) (hc : X.calm = true := by rfl) (hs : ∀ x, foldedSetIterable iter X.env x = pure x := by intro _; rfl) :
    AF X W (.DictComp kx vx [⟨tg, iter, [c], 0⟩] scope pos) (mDictC mi bind t mk me (own.map (·.2))) :=
  af_dc hc hN hi ok hg (fun s H C cl fp => pts_one (ht s H C cl fp)) hk he hv hs
end
end RA
set_option Elab.async false
set_option linter.all false
set_option maxRecDepth 100000
set_option maxHeartbeats 400000
namespace RA
open PySem PySem.Spec PyProof.Rows L2
/-! a star in a display -/
section
variable {X : Cx} {pins : List (Addr × Obj)} {σ : L2.St} {H : Hp} {s : Shared}
theorem star_lst {a : Addr} {xs : List V} {E : Value → Shared → Prop} {Q : List Value → Shared → Prop} (I : Inv X pins σ H s) (h : SqL X.K H a xs) (hQ : ∀ us s', Inv X pins σ H s' → Vals xs us → Q us s') :
    PySem.W.StarOf (model X.prog X.w) X.A E (.ref a) Q s := by
  obtain ⟨its, r, ⟨o, n, ho, hc, _, hd⟩, hz⟩ := I.list h
  have hT : s.TypeIs (.ref a) "list" := ⟨o, ho, hc⟩
  have hl := r.length
  have z : wpAny (model X.prog X.w) X.A (collect (.ref a)) Q E s := by
    refine wpAny_collect_seq a (.inl rfl) ho hc hd (fun h' hk => ?_) (by rw [List.size_toArray]; omega)
    have e : its.toArray.toList = its := by simp
    rw [e]
    exact hQ its _ (I.kept (t' := s.toks) hk) r
  unfold PySem.W.StarOf notIterableAtAll
  exact wpAny_bind (wpAny_specialOf hT PySem.F.slot_list_iter.lookup (wpAny_pure ⟨rfl, z⟩))
def tStar (K : PySem.W.Frag) (te : TE) (t : TA) : TA := fun σ H Q => te σ H fun v H1 => ∃ a xs, v = .ref a ∧ (SqL K H1 a xs ∨ SqT K H1 a xs) ∧ t σ H1 fun vs H2 => Q (xs ++ vs) H2
theorem pa_star {e : Expr} {p : Pos} {es : List Expr} {te : TE} {t : TA} (ha : PE X e te) (hr : PA X es t) (hs : starEach (.Starred e p :: es) X.env = (true, eval e X.env) :: starEach es X.env := by rfl) : PA X (.Starred e p :: es) (tStar X.K te t) := by
  refine ⟨fun pos pins s σ H Q I h => ?_⟩
  refine PySem.W.items_star (thn (ha.run pins s σ H _ I h) fun u s1 ⟨x, H1, I1, r1, a, xs, hx, sq, q1⟩ => ?_) hs
  subst hx
  cases r1
  have go : ∀ us s', Inv X pins σ H1 s' → Vals xs us → wpAny (model X.prog X.w) X.A (spliced (backTo pos (starEach es X.env))) (fun vs s3 => AP X pins σ Q (us ++ vs) s3) X.xe s' := fun us s' I' r =>
    thn (hr.run pos pins s' σ H1 _ I' q1) fun us2 s2 ⟨ys, H2, I2, r2, q2⟩ => ⟨xs ++ ys, H2, I2, r.append r2, q2⟩
  rcases sq with sq | sq
  · exact star_lst I1 sq go
  · exact star_tup I1 sq go
end
def aStar (ma : S → R Vl) (ms : S → R (List Vl)) : S → R (List Vl) := fun st => (ma st).bind fun x s1 => match itemsOf x s1 with
  | some ds => (ms s1).bind fun xs s2 => .ok (ds.map .d ++ xs) s2
  | none => .bad
theorem rws_app {K : PySem.W.Frag} {A : Wd} {H : Hp} {ws : List Vl} {us : List V} (q : RWs K A H us ws) : ∀ {vs : List V} {ds : List D}, RVs K A H vs ds → RWs K A H (vs ++ us) (ds.map .d ++ ws)
  | _, _, .nil => q
  | _, _, .cons h t => .cons h (rws_app q t)
theorem aa_star {X : Cx} {W : WX} {e : Expr} {p : Pos} {es : List Expr} {ma : S → R Vl} {ms : S → R (List Vl)} (ha : AE X W e ma) (hr : AA X W es ms) (hs : starEach (.Starred e p :: es) X.env = (true, eval e X.env) :: starEach es X.env := by rfl) : AA X W (.Starred e p :: es) (aStar ma ms) :=
  PA.imp (pa_star ha hr hs) fun σ H Q ⟨A, st, sr, p⟩ => ⟨A, st, sr, p.bind.imp fun x s1 H1 e1 sr1 p1 v rv => by
    split at p1
    · rename_i ds ex
      obtain ⟨a, us, rfl, h2, r2⟩ := itemsOf_at sr1 rv ex
      exact ⟨a, us, rfl, h2, A, s1, sr1, p1.bind.imp fun xs s2 H2 e2 sr2 p2 vs rvs => p2.here sr2 _ (rws_app rvs (r2.mono e2.kp))⟩
    · exact p1.elim⟩
end RA
set_option Elab.async false
set_option linter.all false
set_option maxRecDepth 100000
set_option maxHeartbeats 400000
namespace RA
open PySem PySem.Spec PyProof.Rows L2
/-! sorted(d), d a dict whose keys are texts -/
noncomputable def fSortedD (ws : List Vl) (st : S) : R Ob := match ws with
  | [x] => (match dicOf x st with
    | some (.k ds) => (match strsD (ds.map Prod.fst) with
      | some xs => if xs.length < 64 then .ok (.lst ((sortL ltS xs).map .str)) st else .bad
      | none => .bad)
    | _ => .bad)
  | _ => .bad
theorem rvk_strs {K : PySem.W.Frag} {A : Wd} {H : Hp} : ∀ {kvs : List (Key × V)} {ds : List (D × D)} {xs : List Str}, RVk K A H kvs ds → strsD (ds.map Prod.fst) = some xs → kvs.map (·.1) = xs.map Sum.inr
  | _, _, xs, .nil, e => by cases e; rfl
  | _, _, xs, .cons (k := k) a b, e => by
    cases k with
    | inl i => cases e
    | inr x =>
      simp only [List.map_cons, dKey, strsD, Option.map_eq_some_iff] at e
      obtain ⟨l, h, rfl⟩ := e
      simp only [List.map_cons, rvk_strs b h]
section
variable {X : Cx} {W : WX} {e : Expr} {ms : S → R (List Vl)} {p pos : Pos}
theorem f_sortedD (hm : X.mg "sorted" = none) (ha : AA X W [e] ms) (hg : Gl X "sorted" := by rfl) (hc : X.calm = true := by rfl) (he : starEach [e] X.env = (false, eval e X.env) :: starEach [] X.env := by rfl) :
    AF X W (.Call (.Name "sorted" p) [e] [] pos) (mCallF fSortedD ms) :=
  PE.imp (pe_callB (call_sortedD hc) hg hm (by decide +kernel) ha (by decide) (by decide) he rfl) fun σ H Q ⟨A, st, sr, q⟩ => ⟨A, st, sr, q.bind.imp fun ws s1 H1 e1 sr1 p1 vs rv => by
    unfold fSortedD at p1
    split at p1
    · obtain ⟨v, rfl, rx⟩ := rws1 rv
      split at p1
      · rename_i ds ex
        obtain ⟨a, rfl, kvs, hr, r⟩ := dicOf_at sr1 rx ex
        split at p1
        · rename_i xs ey
          split at p1
          · rename_i hl
            refine ⟨a, kvs, xs, rfl, hr, rvk_strs r ey, hl, fun ys p hp hs hn => ?_⟩
            obtain rfl : ys = sortL ltS xs := asc_sortL ordS (sorted_asc hs) hp
            have hz : hsz (.lst (((sortL ltS xs)).map V.str)) ≤ sizeLine := by
              show (((sortL ltS xs)).map V.str).length ≤ sizeLine
              rw [List.length_map, (sortL_perm _).length_eq]
              exact Nat.le_trans (Nat.le_of_lt hl) (by decide)
            exact p1 _ (stp_new hn sr1.dj) (sr1.newp (o := .lst ((sortL ltS xs).map V.str)) hn hz) p (e1.back hn) (sr1.new (o := .lst ((sortL ltS xs).map V.str)) hn hz) ⟨_, upd_same, rvs_strs _⟩
          · exact p1.elim
        · exact p1.elim
      · exact p1.elim
    · exact p1.elim⟩
end
end RA
set_option Elab.async false
set_option linter.all false
set_option maxRecDepth 100000
set_option maxHeartbeats 400000
namespace RA
open PySem PySem.Spec PyProof.Rows L2
/-! {} as a new object; d[k] = v of a dict that may be written, keys whole numbers or texts -/
section
variable {X : Cx} {W : WX} {e o i' : Expr} {ma mo mi' : S → R Vl} {p pos : Pos}
def mDnew : S → R Ob := fun st => .ok (.dk []) st
theorem f_dnew : AF X W (.Dict [] [] pos) mDnew := PE.imp pe_dnewK fun σ H Q ⟨A, st, sr, q⟩ p hp => by
  have hz : hsz (.dK []) ≤ sizeLine := Nat.zero_le _
  exact q _ (stp_new hp sr.dj) (sr.newp (o := .dK []) hp hz) p hp (sr.new (o := .dK []) hp hz) ⟨_, upd_same, .nil⟩
def opStoreK (x j w : Vl) (st : S) : R Unit := match j, w with
  | .d k, .d z => (match keyOf k, obOf x st with
    | some k, some (.dk kvs) => if kvs.length < 1000000 then .ok () (st.put x (.dk (putD kvs k z))) else .bad
    | _, _ => .bad)
  | _, _ => .bad
theorem so_storeK {K : PySem.W.Frag} {mg : Str → Option Value} {A : Wd} {H : Hp} {σ : L2.St} {st : S} {v u w : V} {x j z : Vl} {Q : Hp → Prop} (sr : SR K A H σ st) (r1 : RW K A H v x) (r2 : RW K A H u j) (r3 : RW K A H w z)
    (p : PostX K mg W A H σ (opStoreK x j z st) (fun _ _ H' => Q H')) : rSetD v u w H Q := by
  unfold opStoreK at p
  split at p
  · rename_i kd z
    split at p
    · rename_i k kvs hk ho
      split at p
      · rename_i hl
        obtain ⟨a, rfl, ⟨ps, h1, h2⟩, hv, nt⟩ := obOf_at sr r1 ho
        have := keyOf_eq hk
        subst this
        have hu := rv_key (K := K) (A := A) (H := H) (v := u) r2
        subst hu
        have hlen : ps.length = kvs.length := by
          have := h2.length
          rw [List.length_map] at this
          exact this
        have hp : (putK ps k w).length ≤ ps.length + 1 := length_putK ..
        have hlt : ps.length < sizeLine := by
          rw [hlen]
          exact Nat.lt_of_lt_of_le hl (by decide)
        have hz : hsz (.dK (putK ps k w)) ≤ sizeLine := show (putK ps k w).length ≤ _ by omega
        exact ⟨a, _, rfl, DPut.k h1 hlt, p _ (stp_updL hv nt) (sr.put r1 ho hz ⟨_, upd_same, (rvk_put h2 r3).mono (kp_updL hv)⟩)⟩
      · exact p.elim
    · exact p.elim
  · exact p.elim
def sStoreK (mv mo mi : S → R Vl) : S → Out := fun st => (mv st).out fun w s1 => (mo s1).out fun x s2 => (mi s2).out fun j s3 => (opStoreK x j w s3).out fun _ s4 => .nx s4
theorem y_storeK {k : Nat} (hr : Room k X.A) (hv : AE X W e ma) (ho : AE X W o mo) (hi : AE X W i' mi') (ha : ∀ v, assign (.Subscript o i' p) X.env v = (do
      let ov ← holding [v] (eval o X.env)
      let iv ← holding [v, ov] (eval i' X.env)
      standAt p
      holding [v, ov, iv] (setItem ov iv v)
      release [v, ov, iv] []) := by intro _; rfl) (hs : swapsWithSole [.Subscript o i' p] e pos.line X.env = pure false := by rfl) (hw : swappedStores [.Subscript o i' p] e X.env = pure none := by rfl)
    (h1 : (assignEach [.Subscript o i' p] X.env).map (·.2) = [assign (.Subscript o i' p) X.env] := by rfl) : AS X W (.Assign [.Subscript o i' p] e pos) (sStoreK ma mo mi') :=
  PS.imp (ps_asg hv (pg_sub ho hi (set_dict (by have := hr.un; omega)) ha) hs hw h1) fun D σ H ⟨A, s, sr, q⟩ => ⟨A, s, sr, (PostS.of q).imp fun w s1 H1 e1 sr1 p1 v rv => ⟨A, s1, sr1, (PostS.of p1).imp fun x s2 H2 e2 sr2 p2 v2 rv2 => ⟨A, s2, sr2, (PostS.of p2).imp fun j s3 H3 e3 sr3 p3 v3 rv3 => by
    have p4 := PostS.of (σ := σ) p3
    exact so_storeK sr3 (rv2.step e3) rv3 ((rv.step e2).step e3) (p4.imp fun _ s4 H4 e4 sr4 p5 => p5 A H4 σ (Ext.refl A H4) sr4)⟩⟩⟩
end
end RA
set_option Elab.async false
set_option linter.all false
set_option maxRecDepth 100000
set_option maxHeartbeats 400000
namespace RA
open PySem PySem.Spec PyProof.Rows L2
/-! a tuple of texts at the module's own top -/
theorem strs_toks : ∀ (ts : List (Str × Tok)), Vals (ts.map fun p => V.str p.1) (ts.map fun p => Value.str p.1 p.2)
  | [] => .nil
  | p :: ts => .cons ⟨p.2, rfl⟩ (strs_toks ts)
theorem con_tupS {K : PySem.W.Frag} {mg : Str → Option Value} {x : Str} {a : Addr} {n : Nat} {slots : Array (Option Value)} (ts : List (Str × Tok)) (h : mg x = some (.ref a))
    (e : K.lookup a = some ⟨.type "tuple", none, .seq (ts.map fun p => Value.str p.1 p.2).toArray n, slots⟩) (hs : ts.length ≤ sizeLine) : ConT K mg x (ts.map fun p => .str p.1) := by
  refine ⟨a, ts.map fun p => V.str p.1, h, ?_, fun A H => ?_⟩
  · exact ⟨_, _, n, e, rfl, rfl, by rw [List.size_toArray, List.length_map]; exact hs, strs_toks ts⟩
  · have := rvs_strs (K := K) (A := A) (H := H) (ts.map (·.1))
    rw [List.map_map, List.map_map] at this
    exact this
end RA
set_option Elab.async false
set_option linter.all false
set_option maxRecDepth 100000
set_option maxHeartbeats 400000
namespace RA
open PySem PySem.Spec PyProof.Rows L2
/-! a list times a number -/
def opRep (x y : Vl) (st : S) : R Vl := match y with
  | .d (.int k) => (match lstOf x st with
    | some xs => if -(2 ^ 62) ≤ k ∧ k < 2 ^ 62 ∧ xs.length * k.toNat ≤ sizeLine then .ok (.d (.list (List.replicate k.toNat xs).flatten)) st else .bad
    | none => .bad)
  | _ => .bad
theorem rvs_rep {K : PySem.W.Frag} {A : Wd} {H : Hp} {vs : List V} {ds : List D} (r : RVs K A H vs ds) : ∀ n : Nat, RVs K A H (List.replicate n vs).flatten (List.replicate n ds).flatten
  | 0 => .nil
  | n + 1 => by
    simp only [List.replicate_succ, List.flatten_cons]
    exact r.append (rvs_rep r n)
theorem so_rep {K : PySem.W.Frag} {mg : Str → Option Value} {W : WX} : SOp K mg W rRep opRep := fun A H σ st v v2 x y Q sr r1 r2 p => by
  unfold opRep at p
  split at p
  · rename_i k
    cases r2
    split at p
    · rename_i xs e1
      split at p
      · rename_i h
        obtain ⟨a, us, rfl, ha, ra⟩ := lstOf_at sr r1 e1
        have hl := ra.length
        have hz : hsz (.lst (List.replicate k.toNat us).flatten) ≤ sizeLine := by
          show (List.replicate k.toNat us).flatten.length ≤ _
          rw [List.length_flatten, List.map_replicate, List.sum_replicate_nat, Nat.mul_comm, hl]
          exact h.2.2
        exact ⟨a, k, us, rfl, rfl, ha, by omega, by omega, by rw [hl]; exact h.2.2, fun q nq => p _ (stp_new nq sr.dj) (sr.newp (o := .lst _) nq hz) _ (rv_newlst sr nq (rvs_rep ra _))⟩
      · exact p.elim
    · exact p.elim
  · exact p.elim
theorem x_rep {X : Cx} {W : WX} {a b : Expr} {ma mb : S → R Vl} {pos : Pos} (ha : AE X W a ma) (hb : AE X W b mb) : AE X W (.BinOp a .Mult b pos) (m2 opRep ma mb) := ae_op op_rep so_rep ha hb
end RA
set_option Elab.async false
set_option linter.all false
set_option maxRecDepth 100000
set_option maxHeartbeats 400000
namespace RA
open PySem PySem.Spec PyProof.Rows L2
/-! zip(a, b), walked: two tuples, two lists, data both -/
section
variable {K : PySem.W.Frag} {A : Wd} {H : Hp} {xs ys : List D} {v u : V}
theorem zip_get {xs ys : List D} {i : Nat} {a b : D} (h : xs[i]? = some a) (g : ys[i]? = some b) : (pairD xs ys)[i]? = some (.tuple [a, b]) := by
  simp only [pairD, List.getElem?_zipWith, h, g]
theorem lst_at {K : PySem.W.Frag} {A : Wd} {H : Hp} {v : V} {ds : List D} (r : RV K A H v (.list ds)) : ∃ a us, v = .ref a ∧ SqL K H a us ∧ RVs K A H us ds := by
  cases r with
  | lst n h r => exact ⟨_, _, rfl, .inl (.inl h), r⟩
theorem zip_okT (r : RV K A H v (.tuple xs)) (q : RV K A H u (.tuple ys)) (hz : xs.length ≤ sizeLine) : ∃ a b us ws, v = .ref a ∧ u = .ref b ∧ SqT K H a us ∧ SqT K H b ws ∧ ItOk K (RZ.ItzT K a b) A H (pairD xs ys) always false := by
  obtain ⟨a, us, rfl, h1, h2⟩ := tup_at r
  obtain ⟨b, ws, rfl, g1, g2⟩ := tup_at q
  have go : ∀ {A2 : Wd} {H2 : Hp}, Kp A H A2 H2 → ∃ us ws, SqT K H2 a us ∧ RVs K A2 H2 us xs ∧ SqT K H2 b ws ∧ RVs K A2 H2 ws ys := fun {A2 H2} kp => by
    obtain ⟨_, us, e, h1, h2⟩ := tup_at (RV.mono kp r)
    cases e
    obtain ⟨_, ws, e, g1, g2⟩ := tup_at (RV.mono kp q)
    cases e
    exact ⟨us, ws, h1, h2, g1, g2⟩
  refine ⟨a, b, us, ws, rfl, rfl, h1, g1, ?_⟩
  refine ⟨?_, fun i A2 H2 σ2 st2 hi kp fx sr ck => ?_, fun A2 H2 σ2 st2 kp fx sr ck => ?_, fun i A2 H2 σ2 st2 x H' hi kp fx sr ck y => ?_⟩
  · rw [pairD, List.length_zipWith]; omega
  · obtain ⟨us, ws, h1, h2, g1, g2⟩ := go kp
    rw [pairD, List.length_zipWith] at hi
    have l1 := h2.length
    have l2 := g2.length
    exact ⟨us, ws, us[i]'(by omega), ws[i]'(by omega), h1, g1, by simp, by simp⟩
  · obtain ⟨us, ws, h1, h2, g1, g2⟩ := go kp
    have l1 := h2.length
    have l2 := g2.length
    exact ⟨us, ws, h1, g1, by rw [pairD, List.length_zipWith]; omega⟩
  · obtain ⟨us, ws, h1, h2, g1, g2⟩ := go kp
    obtain ⟨T, x1, y1, rfl, nT, rfl, hx, hy⟩ := y
    obtain ⟨d, hd, rd⟩ := h2.at (hx us h1)
    obtain ⟨e, he, re⟩ := g2.at (hy ws g1)
    obtain ⟨k1, k2, k3⟩ := pair_yld sr nT rd re
    exact ⟨k1, k2, _, zip_get hd he, k3⟩
theorem zip_okL (r : RV K A H v (.list xs)) (q : RV K A H u (.list ys)) (hz : xs.length ≤ sizeLine) : ∃ a b us ws, v = .ref a ∧ u = .ref b ∧ SqL K H a us ∧ SqL K H b ws ∧ ItOk K (Itz K a b) A H (pairD xs ys) always false := by
  obtain ⟨a, us, rfl, h1, h2⟩ := lst_at r
  obtain ⟨b, ws, rfl, g1, g2⟩ := lst_at q
  have go : ∀ {A2 : Wd} {H2 : Hp}, Kp A H A2 H2 → ∃ us ws, SqL K H2 a us ∧ RVs K A2 H2 us xs ∧ SqL K H2 b ws ∧ RVs K A2 H2 ws ys := fun {A2 H2} kp => by
    obtain ⟨_, us, e, h1, h2⟩ := lst_at (RV.mono kp r)
    cases e
    obtain ⟨_, ws, e, g1, g2⟩ := lst_at (RV.mono kp q)
    cases e
    exact ⟨us, ws, h1, h2, g1, g2⟩
  refine ⟨a, b, us, ws, rfl, rfl, h1, g1, ?_⟩
  refine ⟨?_, fun i A2 H2 σ2 st2 hi kp fx sr ck => ?_, fun A2 H2 σ2 st2 kp fx sr ck => ?_, fun i A2 H2 σ2 st2 x H' hi kp fx sr ck y => ?_⟩
  · rw [pairD, List.length_zipWith]; omega
  · obtain ⟨us, ws, h1, h2, g1, g2⟩ := go kp
    rw [pairD, List.length_zipWith] at hi
    have l1 := h2.length
    have l2 := g2.length
    exact ⟨us, ws, us[i]'(by omega), ws[i]'(by omega), h1, g1, by simp, by simp⟩
  · obtain ⟨us, ws, h1, h2, g1, g2⟩ := go kp
    have l1 := h2.length
    have l2 := g2.length
    exact ⟨us, ws, h1, g1, by rw [pairD, List.length_zipWith]; omega⟩
  · obtain ⟨us, ws, h1, h2, g1, g2⟩ := go kp
    obtain ⟨T, x1, y1, rfl, nT, rfl, hx, hy⟩ := y
    obtain ⟨d, hd, rd⟩ := h2.at (hx us h1)
    obtain ⟨e, he, re⟩ := g2.at (hy ws g1)
    obtain ⟨k1, k2, k3⟩ := pair_yld sr nT rd re
    exact ⟨k1, k2, _, zip_get hd he, k3⟩
end
def fZip (ws : List Vl) (st : S) : R Src := match ws with
  | [.d (.tuple xs), .d (.tuple ys)] => if xs.length ≤ sizeLine then .ok ⟨pairD xs ys, always, false⟩ st else .bad
  | [.d (.list xs), .d (.list ys)] => if xs.length ≤ sizeLine then .ok ⟨pairD xs ys, always, false⟩ st else .bad
  | _ => .bad
def mZip (ma mb : S → R Vl) : S → R Src := mSrc fZip (aCons ma (aCons mb aNil))
theorem x_zip {X : Cx} {W : WX} {e e2 : Expr} {ma mb : S → R Vl} {es : List Expr} {kk : Nat} {p pos tpos : Pos} (hm : X.mg "zip" = none) (ha : AE X W e ma) (hb : AE X W e2 mb) (hg : Gl X "zip" := by rfl)
    (hs : starEach [e, e2] X.env = (false, eval e X.env) :: starEach [e2] X.env := by rfl) (hs2 : starEach [e2] X.env = (false, eval e2 X.env) :: starEach [] X.env := by rfl) (hpl : (backTo pos (starEach [e2] X.env)).any (·.1) = false := by rfl) :
    AI X W (.Tuple es kk tpos) (.Call (.Name "zip" p) [e, e2] [] pos) (mZip ma mb) :=
  PI.imp (RZ.pi_zipA hg hm (aa_cons ha (aa_cons hb aa_nil hs2) hs) hs hpl) fun σ H Q ⟨A, st, sr, q⟩ => ⟨A, st, sr, (PostX.bind q).imp fun ws s1 H1 e1 sr1 p1 vs rv => by
    unfold fZip at p1
    split at p1
    · obtain ⟨v, u, rfl, r1, r2⟩ := rws2 rv
      split at p1
      · rename_i hz
        obtain ⟨a, b, us, vs, rfl, rfl, h1, h2, ok⟩ := zip_okT r1 r2 hz
        exact ⟨a, b, us, vs, rfl, .inr ⟨h1, h2, p1.here sr1 _ ok⟩⟩
      · exact p1.elim
    · obtain ⟨v, u, rfl, r1, r2⟩ := rws2 rv
      split at p1
      · rename_i hz
        obtain ⟨a, b, us, vs, rfl, rfl, h1, h2, ok⟩ := zip_okL r1 r2 hz
        exact ⟨a, b, us, vs, rfl, .inl ⟨h1, h2, p1.here sr1 _ ok⟩⟩
      · exact p1.elim
    · exact p1.elim⟩
end RA
set_option Elab.async false
set_option linter.all false
set_option maxRecDepth 100000
set_option maxHeartbeats 400000
namespace RA
open PySem PySem.Spec PyProof.Rows L2
/-! a text walked, sign by sign; two ways to walk joined -/
section
variable {X : Cx} {W : WX} {tg e : Expr} {ma : S → R Vl}
theorem ai_or {f1 f2 f : Vl → S → R Src} (h1 : AI X W tg e (fun st => (ma st).bind f1)) (h2 : AI X W tg e (fun st => (ma st).bind f2)) (hf : ∀ x s, f x s = f1 x s ∨ f x s = f2 x s) : AI X W tg e (fun st => (ma st).bind f) :=
  PI.imp (PI.or h1 h2) fun σ H Q ⟨A, st, sr, p⟩ => by
    dsimp only at p
    cases em : ma st with
    | bad => exact .inl ⟨A, st, sr, by dsimp only; rw [em] at p ⊢; exact p⟩
    | exc x s1 => exact .inl ⟨A, st, sr, by dsimp only; rw [em] at p ⊢; exact p⟩
    | ok x s1 =>
      rw [em, R.bind_ok] at p
      rcases hf x s1 with q | q
      · exact .inl ⟨A, st, sr, by dsimp only; rw [em, R.bind_ok, ← q]; exact p⟩
      · exact .inr ⟨A, st, sr, by dsimp only; rw [em, R.bind_ok, ← q]; exact p⟩
def signsD (z : Str) : List D := z.cps.toList.map fun c => .str ⟨#[c]⟩
def fSigns (x : Vl) (st : S) : R Src := match x with
  | .d (.str z) => if z.length ≤ sizeLine then .ok ⟨signsD z, always, false⟩ st else .bad
  | _ => .bad
theorem signs_ok {K : PySem.W.Frag} {A : Wd} {H : Hp} {z : Str} (h : z.length ≤ sizeLine) : ItOk K (Its z) A H (signsD z) always false where
  sz := by
    have e : (signsD z).length = z.cps.size := by simp [signsD]
    rw [e]; exact h
  go i A2 H2 σ2 st2 hi kp fx sr ck := by
    simp only [signsD, List.length_map, Array.length_toList] at hi; exact hi
  stop A2 H2 σ2 st2 kp fx sr ck := by
    show z.cps.size ≤ (signsD z).length
    simp [signsD]
  yld i A2 H2 σ2 st2 x H' hi kp fx sr ck y := by
    obtain ⟨rfl, c, hc, rfl⟩ := y
    refine ⟨Stp.refl _ _, sr, .str ⟨#[c]⟩, ?_, .str _⟩
    simp only [signsD, List.getElem?_map, Array.getElem?_toList, hc, Option.map_some]
theorem ai_signs (ha : AE X W e ma) : AI X W tg e (fun st => (ma st).bind fSigns) :=
  PI.imp (pi_str ha) fun σ H Q ⟨A, st, sr, p⟩ => ⟨A, st, sr, p.bind.imp fun x s1 H1 e1 sr1 p1 v rv => by
    unfold fSigns at p1
    split at p1
    · rename_i z
      split at p1
      · rename_i hz
        cases (rv : RV X.K A H1 v _)
        exact ⟨z, rfl, p1.here sr1 _ (signs_ok hz)⟩
      · exact p1.elim
    · exact p1.elim⟩
def fItemsA (x : Vl) (st : S) : R Src := match x with
  | .d (.str z) => if z.length ≤ sizeLine then .ok ⟨signsD z, always, false⟩ st else .bad
  | x => fItems x st
def mItemsA (ma : S → R Vl) : S → R Src := fun st => (ma st).bind fItemsA
theorem ai_itemsA (ha : AE X W e ma) : AI X W tg e (mItemsA ma) :=
  ai_or (f1 := fItems) (f2 := fSigns) (ai_items ha) (ai_signs ha) fun x s => by
    unfold fItemsA fSigns
    split
    · exact .inr rfl
    · exact .inl rfl
end
end RA
set_option Elab.async false
set_option linter.all false
set_option maxRecDepth 100000
set_option maxHeartbeats 400000
namespace RA
open PySem PySem.Spec PyProof.Rows L2
/-! plain things that laws share: formulas, cuts, dicts of names -/
theorem cell_at {cs : List Int} (h : ∀ x ∈ cs, 0 ≤ x) (c : Int) : ∃ k : Int, 0 ≤ k ∧ atI (cutL (cs.map PyData.int) (some c) none ++ [.int 0]) 0 = some (.int k) ∧ (cutL (cs.map PyData.int) (some c) none).length ≤ cs.length := by
  have hl : (cutL (cs.map PyData.int) (some c) none).length ≤ cs.length := by
    unfold cutL
    rw [List.length_take, List.length_drop, List.length_map]
    omega
  have hm : ∀ d ∈ cutL (cs.map PyData.int) (some c) none, ∃ k : Int, 0 ≤ k ∧ d = .int k := fun d hd => by
    unfold cutL at hd
    obtain ⟨k, hk, rfl⟩ := List.mem_map.mp (List.mem_of_mem_drop (List.mem_of_mem_take hd))
    exact ⟨k, h k hk, rfl⟩
  generalize cutL (cs.map PyData.int) (some c) none = L at hl hm
  cases L with
  | nil => exact ⟨0, Int.le_refl _, rfl, hl⟩
  | cons d L =>
    obtain ⟨k, hk, rfl⟩ := hm _ (List.mem_cons_self ..)
    refine ⟨k, hk, ?_, hl⟩
    unfold atI ixN
    rw [if_pos (Int.le_refl 0), if_pos (by simp only [List.length_append, List.length_cons]; omega)]
    rfl
theorem atI_nat' {α : Type} {xs : List α} {i : Int} (h0 : 0 ≤ i) (h : i < xs.length) : ∃ d, atI xs i = some d ∧ d ∈ xs ∧ xs[i.toNat]? = some d := by
  have hi : i.toNat < xs.length := by omega
  refine ⟨xs[i.toNat], ?_, List.getElem_mem hi, List.getElem?_eq_getElem hi⟩
  unfold atI ixN
  rw [if_pos h0, if_pos h]
  exact List.getElem?_eq_getElem hi
theorem eqv_nil (ds : List D) : PyData.eqv (.list ds) (.list []) = decide (ds = []) := by
  cases ds <;> simp [PyData.eqv, PyData.eqvAll]
inductive Fm where
  | gift (x : Str)
  | node (w : Bool) (ps : List Fm)
def wd (w : Bool) : Str := if w then Str.ofString "all" else Str.ofString "any"
mutual
def enc : Fm → D
  | .gift x => .tuple [.str (Str.ofString "gift"), .str x]
  | .node w ps => .tuple [.str (wd w), .tuple (encs ps)]
def encs : List Fm → List D
  | [] => []
  | f :: fs => enc f :: encs fs
end
mutual
def fd : Fm → Nat
  | .gift _ => 0
  | .node _ ps => fds ps + 1
def fds : List Fm → Nat
  | [] => 0
  | f :: fs => max (fd f) (fds fs)
end
mutual
def sz : Fm → Nat
  | .gift _ => 3
  | .node _ ps => szs ps + 3
def szs : List Fm → Nat
  | [] => 0
  | f :: fs => sz f + szs fs
end
mutual
def On (p : Str → Prop) : Fm → Prop
  | .gift x => p x
  | .node _ ps => Ons p ps
def Ons (p : Str → Prop) : List Fm → Prop
  | [] => True
  | f :: fs => On p f ∧ Ons p fs
end
theorem encs_app : ∀ (a b : List Fm), encs (a ++ b) = encs a ++ encs b
  | [], b => rfl
  | f :: a, b => by simp [encs, encs_app a b]
theorem encs_len : ∀ a : List Fm, (encs a).length = a.length
  | [] => rfl
  | f :: a => by simp [encs, encs_len a]
theorem fds_app : ∀ (a b : List Fm), fds (a ++ b) = max (fds a) (fds b)
  | [], b => by simp [fds]
  | f :: a, b => by simp [fds, fds_app a b, Nat.max_assoc]
theorem szs_app : ∀ (a b : List Fm), szs (a ++ b) = szs a + szs b
  | [], b => by simp [szs]
  | f :: a, b => by simp [szs, szs_app a b, Nat.add_assoc]
theorem Ons_app {p : Str → Prop} : ∀ (a b : List Fm), Ons p (a ++ b) ↔ Ons p a ∧ Ons p b
  | [], b => by simp [Ons]
  | f :: a, b => by simp [Ons, Ons_app a b, and_assoc]
def N0 : Nat → Nat
  | 0 => 3
  | d + 1 => 3 + 3 * N0 d
theorem N0_le : ∀ d, 3 ≤ N0 d
  | 0 => Nat.le_refl _
  | d + 1 => Nat.le_add_right _ _
theorem range_mem {k : Nat} {d : D} (h : d ∈ rangeD 0 k) : ∃ i : Int, d = .int i := by
  unfold rangeD at h
  obtain ⟨i, _, rfl⟩ := List.mem_map.mp h
  exact ⟨_, rfl⟩
theorem encs_map : ∀ ps : List Fm, encs ps = ps.map enc
  | [] => rfl
  | p :: ps => by rw [encs, encs_map ps]; rfl
theorem fd_mem : ∀ {ps : List Fm} {f : Fm}, f ∈ ps → fd f ≤ fds ps
  | [], _, h => by cases h
  | g :: ps, f, h => by
    rcases List.mem_cons.mp h with rfl | h
    · exact Nat.le_max_left _ _
    · exact Nat.le_trans (fd_mem h) (Nat.le_max_right _ _)
theorem filt {α : Type} (l : List α) : l.filter (fun _ => true) = l := List.filter_eq_self.mpr fun _ _ => rfl
theorem wd_ne (w : Bool) : decide (wd w = Str.ofString "gift") = false := by cases w <;> decide
mutual
def holds (s : Str → Bool) : Fm → Bool
  | .gift x => s x
  | .node true ps => allH s ps
  | .node false ps => anyH s ps
def allH (s : Str → Bool) : List Fm → Bool
  | [] => true
  | f :: fs => holds s f && allH s fs
def anyH (s : Str → Bool) : List Fm → Bool
  | [] => false
  | f :: fs => holds s f || anyH s fs
end
theorem allH_map (s : Str → Bool) : ∀ ps : List Fm, allH s ps = (ps.map (holds s)).all id
  | [] => rfl
  | f :: ps => by simp [allH, allH_map s ps]
theorem anyH_map (s : Str → Bool) : ∀ ps : List Fm, anyH s ps = (ps.map (holds s)).any id
  | [] => rfl
  | f :: ps => by simp [anyH, anyH_map s ps]
theorem bools_map : ∀ bs : List Bool, boolsD (bs.map .bool) = some bs
  | [] => rfl
  | b :: bs => by simp [boolsD, bools_map bs]
theorem wp_bools {st : S} {Q : Vl → S → Prop} {g : List Bool → Bool} {bs : List Bool} {ds : List D} (e : ds = bs.map .bool) (q : Q (.d (.bool (g bs))) st) : wp (fBools g [.d (.list ds)] st) Q := by
  subst e
  show wp (match boolsD (bs.map .bool) with | some bs => R.ok (Vl.d (.bool (g bs))) st | none => .bad) Q
  rw [bools_map]
  exact wp_ok q
theorem wd_all (w : Bool) : decide (wd w = Str.ofString "all") = w := by cases w <;> decide
theorem in_bools (b : Bool) (bs : List Bool) (st : S) : opIn (.d (.bool b)) (.d (.list (bs.map .bool))) st = .ok (.d (.bool (decide (b ∈ bs)))) st := by
  have a : ((bs.map PyData.bool).any fun z => PyData.eqv z (.bool b)) = decide (b ∈ bs) := by
    induction bs with
    | nil => rfl
    | cons c bs ih =>
      rw [List.map_cons, List.any_cons, ih]
      have : PyData.eqv (.bool c) (.bool b) = decide (b = c) := by simp only [PyData.eqv]; cases b <;> cases c <;> rfl
      rw [this]
      simp
  have e : inD (.bool b) (.d (.list (bs.map .bool))) st = some (decide (b ∈ bs)) := by
    show (if ((bs.map PyData.bool).all flatD = true ∧ flatD (.bool b) = true) ∨ _ then some ((bs.map PyData.bool).any fun z => PyData.eqv z (.bool b)) else none) = _
    rw [if_pos (.inl ⟨by simp [flatD], rfl⟩), a]
  show (match inD (.bool b) (.d (.list (bs.map .bool))) st with | some b => R.ok (Vl.d (.bool (id b))) st | none => .bad) = _
  rw [e]
  rfl
theorem nin_bools (b : Bool) (bs : List Bool) (st : S) : opNotIn (.d (.bool b)) (.d (.list (bs.map .bool))) st = .ok (.d (.bool (!decide (b ∈ bs)))) st := by
  have e' := in_bools b bs st
  have e2 : (match inD (.bool b) (.d (.list (bs.map .bool))) st with | some b => R.ok (Vl.d (.bool (id b))) st | none => .bad) = .ok (.d (.bool (decide (b ∈ bs)))) st := e'
  show (match inD (.bool b) (.d (.list (bs.map .bool))) st with | some b => R.ok (Vl.d (.bool (!b))) st | none => .bad) = _
  cases hi : inD (.bool b) (.d (.list (bs.map .bool))) st with
  | none => rw [hi] at e2; cases e2
  | some c =>
    rw [hi] at e2
    injection e2 with e1 _
    injection e1 with e1
    injection e1 with e1
    subst e1
    rfl
theorem all_not : ∀ bs : List Bool, (!decide (false ∈ bs)) = bs.all id
  | [] => rfl
  | b :: bs => by
    rw [List.all_cons, ← all_not bs]
    cases b <;> simp
theorem any_is : ∀ bs : List Bool, decide (true ∈ bs) = bs.any id
  | [] => rfl
  | b :: bs => by
    rw [List.any_cons, ← any_is bs]
    cases b <;> simp
theorem wd_inj {a b : Bool} (h : wd a = wd b) : a = b := by cases a <;> cases b <;> first | rfl | exact absurd h (by decide)
mutual
theorem eqv_enc : ∀ a b : Fm, PyData.eqv (enc a) (enc b) = true ↔ a = b
  | .gift x, .gift y => by simp [enc, PyData.eqv, PyData.eqvAll]
  | .gift x, .node w ps => by
    simp only [enc, PyData.eqv, PyData.eqvAll, Bool.and_true, Bool.and_false, reduceCtorEq, iff_false]
  | .node w ps, .gift x => by
    simp only [enc, PyData.eqv, PyData.eqvAll, Bool.and_true, Bool.and_false, reduceCtorEq, iff_false]
  | .node w ps, .node v qs => by
    simp only [enc, PyData.eqv, PyData.eqvAll, Bool.and_true, Bool.and_eq_true, beq_iff_eq, Fm.node.injEq]
    rw [eqv_encs ps qs]
    exact ⟨fun h => ⟨wd_inj h.1, h.2⟩, fun h => ⟨by rw [h.1], h.2⟩⟩
theorem eqv_encs : ∀ a b : List Fm, PyData.eqvAll (encs a) (encs b) = true ↔ a = b
  | [], [] => by simp [encs, PyData.eqvAll]
  | [], _ :: _ => by simp [encs, PyData.eqvAll]
  | _ :: _, [] => by simp [encs, PyData.eqvAll]
  | a :: as, b :: bs => by
    simp only [encs, PyData.eqvAll, Bool.and_eq_true, List.cons.injEq]
    rw [eqv_enc a b, eqv_encs as bs]
end
open Classical in
theorem eqv_dec (a b : Fm) : PyData.eqv (enc a) (enc b) = decide (a = b) := by
  by_cases h : a = b
  · rw [decide_eq_true h]; exact (eqv_enc a b).mpr h
  · rw [decide_eq_false h]
    cases q : PyData.eqv (enc a) (enc b) with
    | false => rfl
    | true => exact absurd ((eqv_enc a b).mp q) h
mutual
theorem sh_enc : ∀ f : Fm, On (fun x => Sh (.str x)) f → (enc f).canLay0 = true ∧ (enc f).depth ≤ 2 * fd f + 1
  | .gift x, h => by
    have h1 : (PyData.str x).canLay0 = true := h.1
    refine ⟨?_, ?_⟩
    · rw [enc, PyData.canLay0, PyData.canLayAll0, PyData.canLayAll0, PyData.canLayAll0, h1]
      decide +kernel
    · simp [enc, PyData.depth, PyData.depthAll, fd]
  | .node w ps, h => by
    obtain ⟨a, b⟩ := sh_encs ps h
    refine ⟨?_, ?_⟩
    · rw [enc, PyData.canLay0, PyData.canLayAll0, PyData.canLayAll0, PyData.canLayAll0]
      rw [PyData.canLay0.eq_def (.tuple (encs ps))]
      simp only [a, Bool.and_true]
      cases w <;> decide +kernel
    · simp only [enc, PyData.depth, PyData.depthAll, fd]
      omega
theorem sh_encs : ∀ ps : List Fm, Ons (fun x => Sh (.str x)) ps → PyData.canLayAll0 (encs ps) = true ∧ PyData.depthAll (encs ps) ≤ 2 * fds ps + 1
  | [], _ => ⟨by simp [encs, PyData.canLayAll0], by simp [encs, PyData.depthAll]⟩
  | f :: fs, h => by
    obtain ⟨a, b⟩ := sh_enc f h.1
    obtain ⟨c, d⟩ := sh_encs fs h.2
    refine ⟨by simp [encs, PyData.canLayAll0, a, c], ?_⟩
    simp only [encs, PyData.depthAll, fds]
    omega
end
theorem sh_of {f : Fm} (h : On (fun x => Sh (.str x)) f) (hd : fd f ≤ 20) : Sh (enc f) := ⟨(sh_enc f h).1, by have := (sh_enc f h).2; omega⟩
theorem szs_filter (q : Fm → Bool) : ∀ l : List Fm, szs (l.filter q) ≤ szs l
  | [] => Nat.le_refl _
  | f :: l => by
    rw [List.filter_cons]
    split
    · simp only [szs]; have := szs_filter q l; omega
    · simp only [szs]; have := szs_filter q l; omega
theorem fds_filter (q : Fm → Bool) : ∀ l : List Fm, fds (l.filter q) ≤ fds l
  | [] => Nat.le_refl _
  | f :: l => by
    rw [List.filter_cons]
    split
    · simp only [fds]; have := fds_filter q l; omega
    · simp only [fds]; have := fds_filter q l; omega
theorem Ons_filter {p : Str → Prop} (q : Fm → Bool) : ∀ l : List Fm, Ons p l → Ons p (l.filter q)
  | [], _ => trivial
  | f :: l, h => by
    rw [List.filter_cons]
    split
    · exact ⟨h.1, Ons_filter q l h.2⟩
    · exact Ons_filter q l h.2
theorem sz_pos : ∀ f : Fm, 3 ≤ sz f
  | .gift _ => Nat.le_refl _
  | .node _ _ => Nat.le_add_left _ _
theorem len_szs : ∀ l : List Fm, l.length ≤ szs l
  | [] => Nat.zero_le _
  | f :: l => by
    have := len_szs l
    have := sz_pos f
    simp only [szs, List.length_cons]; omega
theorem allH_app (s : Str → Bool) (a b : List Fm) : allH s (a ++ b) = (allH s a && allH s b) := by simp [allH_map]
theorem anyH_app (s : Str → Bool) (a b : List Fm) : anyH s (a ++ b) = (anyH s a || anyH s b) := by simp [anyH_map]
abbrev ok1 (f : Fm) : Prop := On (fun x => Sh (.str x)) f
abbrev oks (f : List Fm) : Prop := Ons (fun x => Sh (.str x)) f
theorem oks_mem : ∀ {ps : List Fm} {f : Fm}, oks ps → f ∈ ps → ok1 f
  | [], _, _, h => by cases h
  | g :: ps, f, o, h => by
    rcases List.mem_cons.mp h with rfl | h
    · exact o.1
    · exact oks_mem o.2 h
theorem sh_encl {ps : List Fm} (h : oks ps) (hd : fds ps ≤ 20) : ∀ d ∈ encs ps, Sh d := fun d hm => by
  rw [encs_map] at hm
  obtain ⟨f, hf, rfl⟩ := List.mem_map.mp hm
  exact sh_of (oks_mem h hf) (Nat.le_trans (fd_mem hf) hd)
open Classical in
theorem any_encs (f : Fm) : ∀ ps : List Fm, ((encs ps).any fun z => PyData.eqv z (enc f)) = decide (f ∈ ps)
  | [] => by simp [encs]
  | p :: ps => by
    rw [encs, List.any_cons, any_encs f ps, eqv_dec]
    by_cases h : p = f
    · simp [h]
    · simp [h, Ne.symm h]
open Classical in
theorem nin_encs {f : Fm} {ps : List Fm} {y : Vl} {st : S} (hf : Sh (enc f)) (hps : ∀ d ∈ encs ps, Sh d) (hd : dicOf y st = none) (ht : tupOf y = none) (hn : ∀ z, y ≠ .d (.str z)) (hs : seqOf y st = some (encs ps)) : opNotIn (.d (enc f)) y st = .ok (.d (.bool (!decide (f ∈ ps)))) st := by
  have e : inD (enc f) y st = some (decide (f ∈ ps)) := by
    unfold inD
    rw [hd]
    dsimp only
    split
    · rename_i z; exact absurd rfl (hn z)
    · rw [ht, hs]
      dsimp only
      rw [if_pos (.inr ⟨sh_shaped hf, shl_shaped hps⟩), any_encs]
  show (match inD (enc f) y st with | some b => R.ok (Vl.d (.bool (!b))) st | none => .bad) = _
  rw [e]
theorem dic_own {i : Nat} {st : S} {ds : List D} (e : st.env[i]? = some (.own (.lst ds))) : dicOf (.own i) st = none := by
  unfold dicOf
  simp only [e]
theorem seq_own {i : Nat} {st : S} {ds : List D} (e : st.env[i]? = some (.own (.lst ds))) : seqOf (.own i) st = some ds := by
  show lstOf (.own i) st = some ds
  unfold lstOf
  simp only [e]
theorem cutL_map {α β : Type} (f : α → β) (l : List α) (a b : Option Int) : cutL (l.map f) a b = (cutL l a b).map f := by
  simp [cutL, List.map_take, List.map_drop]
theorem cutL_sub {α : Type} {l : List α} {a b : Option Int} {x : α} (h : x ∈ cutL l a b) : x ∈ l := List.mem_of_mem_drop (List.mem_of_mem_take h)
theorem cutL_len {α : Type} (l : List α) (a b : Option Int) : (cutL l a b).length ≤ l.length := by
  unfold cutL
  rw [List.length_take, List.length_drop]
  omega
mutual
def nd : D → Nat
  | .list xs => nds xs + 1
  | .tuple xs => nds xs + 1
  | _ => 1
def nds : List D → Nat
  | [] => 0
  | x :: xs => nd x + nds xs
end
theorem nds_app : ∀ a b : List D, nds (a ++ b) = nds a + nds b
  | [], b => by simp [nds]
  | x :: a, b => by simp [nds, nds_app a b, Nat.add_assoc]
theorem nd_pos (d : D) : 1 ≤ nd d := by cases d <;> simp [nd]
theorem nds_len : ∀ a : List D, a.length ≤ nds a
  | [] => Nat.zero_le _
  | x :: a => by
    have := nds_len a
    have := nd_pos x
    simp only [List.length_cons, nds]; omega
def dup (d : D) : D := .tuple [d, d]
theorem pairD_dup : ∀ xs : List D, pairD xs xs = xs.map dup
  | [] => rfl
  | x :: xs => by
    show dup x :: pairD xs xs = _
    rw [pairD_dup xs]; rfl
theorem lay_mem : ∀ {xs : List D} {d : D}, PyData.canLayAll0 xs = true → d ∈ xs → d.canLay0 = true
  | [], _, _, h => by cases h
  | x :: xs, d, e, h => by
    simp only [PyData.canLayAll0, Bool.and_eq_true] at e
    rcases List.mem_cons.mp h with rfl | h
    · exact e.1
    · exact lay_mem e.2 h
theorem wp_ixO {st : S} {Q : Vl → S → Prop} {j : Nat} {xs : List D} {i : Int} {d : D} (e : st.env[j]? = some (.own (.lst xs))) (e2 : atI xs i = some d) (q : Q (.d d) st) : wp (opIx (.own j) (.d (.int i)) st) Q := by
  have e3 : seqOf (.own j) st = some xs := by
    show lstOf (.own j) st = some xs
    unfold lstOf
    simp only [e]
  show wp (match seqOf (.own j) st with | some xs => (match atI xs i with | some d => .ok (.d d) st | none => .bad) | none => .bad) Q
  rw [e3]
  dsimp only
  rw [e2]
  exact wp_ok q
theorem wp_setS {st : S} {Q : Ob → S → Prop} {xs : List Str} (q : Q (.lst ((setL ltS xs).map .str)) st) (h : xs.length + 1 < scanBound) : wp (fSortedSet [.d (.list (xs.map .str))] st) Q := by
  have e : (itemsOf (.d (.list (xs.map PyData.str))) st).bind strsD = some xs := by
    show strsD (xs.map PyData.str) = some xs
    exact strsD_map xs
  show wp (match (itemsOf (.d (.list (xs.map PyData.str))) st).bind strsD with
    | some xs => if xs.length + 1 < scanBound then .ok (.lst ((setL ltS xs).map .str)) st else .bad
    | none => .bad) Q
  rw [e]
  dsimp only
  rw [if_pos h]
  exact wp_ok q
theorem strsD_rows : ∀ {rs : List (List Str)}, rs ≠ [] → strsD (rs.map rowD) = none
  | [], h => absurd rfl h
  | x :: r, _ => rfl
theorem intsD_rows : ∀ {rs : List (List Str)}, rs ≠ [] → intsD (rs.map rowD) = none
  | [], h => absurd rfl h
  | x :: r, _ => rfl
theorem wp_sortR {st : S} {Q : Ob → S → Prop} {rs : List (List Str)} (h : rs ≠ []) (q : Q (.lst ((sortL (ltX ltS) rs).map rowD)) st) : wp (fSorted [.d (.list (rs.map rowD))] st) Q := by
  have e : (seqOf (.d (.list (rs.map rowD))) st).bind sortD = some ((sortL (ltX ltS) rs).map rowD) := by
    show sortD (rs.map rowD) = _
    unfold sortD
    rw [strsD_rows h, intsD_rows h, rowsD_map]
    rfl
  show wp (match (seqOf (.d (.list (rs.map rowD))) st).bind sortD with
    | some ds => .ok (.lst ds) st
    | none => .bad) Q
  rw [e]
  exact wp_ok q
theorem setL_len (xs : List Str) : (setL ltS xs).length ≤ xs.length := by
  have e : ∀ l : List Str, (nubL l).length ≤ l.length := fun l => by
    induction l with
    | nil => exact Nat.le_refl _
    | cons x l ih =>
      unfold nubL
      split
      · exact Nat.le_succ_of_le ih
      · exact Nat.succ_le_succ ih
  unfold setL
  rw [(sortL_perm _).length_eq]
  exact e xs
theorem rowD_add (l : List Str) (x : Str) : (l.map PyData.str) ++ [.str x] = (l ++ [x]).map PyData.str := by simp
theorem fl_len (y : Str) : ∀ A : List (List Str), (A.flatMap fun l => [l, l ++ [y]]).length = A.length * 2
  | [] => rfl
  | a :: A => by
    rw [List.flatMap_cons, List.length_append, fl_len y A]
    simp only [List.length_cons, List.length_nil]
    omega
theorem mem_put (S : List (Key × D)) (k x : Key) (v : D) : x ∈ (putD S k v).map (·.1) ↔ x ∈ S.map (·.1) ∨ x = k := by
  unfold putD
  split
  · rename_i h
    have e : (S.map fun kv => if kv.1 = k then (kv.1, v) else kv).map (·.1) = S.map (·.1) := by
      rw [List.map_map]
      refine List.map_congr_left fun kv _ => ?_
      show (if kv.1 = k then (kv.1, v) else kv).1 = kv.1
      split <;> rfl
    rw [e]
    obtain ⟨kv, hk, hd⟩ := List.any_eq_true.mp h
    have hd := of_decide_eq_true hd
    refine ⟨.inl, fun h => h.elim id fun h => ?_⟩
    rw [h, ← hd]
    exact List.mem_map_of_mem hk
  · simp
theorem mem_merge (x : Key) : ∀ (more S : List (Key × D)), x ∈ (mergeD S more).map (·.1) ↔ x ∈ S.map (·.1) ∨ x ∈ more.map (·.1)
  | [], S => by simp [mergeD]
  | p :: more, S => by
    show x ∈ (mergeD (putD S p.1 p.2) more).map (·.1) ↔ _
    rw [mem_merge x more, mem_put, List.map_cons, List.mem_cons, or_assoc]
theorem dic_dkk (S : List (Key × D)) : dicD (dkk S) = .k (dkk S) := by
  cases S with
  | nil => rfl
  | cons p S =>
    obtain ⟨k, v⟩ := p
    cases k <;> rfl
theorem look_dkk (k : Key) : ∀ S : List (Key × D), (dlook (dkk S) (dKey k)).isSome = true ↔ k ∈ S.map Prod.fst
  | [] => by simp [dlook, dkk]
  | p :: S => by
    have ih := look_dkk k S
    unfold dlook at *
    rw [Option.isSome_map] at *
    show (List.find? _ ((dKey p.1, p.2) :: dkk S)).isSome = true ↔ _
    rw [List.find?_cons]
    have ex : (dKey p.1 = dKey k) = (p.1 = k) := propext ⟨dKey_inj, fun e => by rw [e]⟩
    by_cases h : p.1 = k
    · simp [h]
    · have h' : ¬ k = p.1 := fun e => h e.symm
      simp only [ex, h, decide_false]
      rw [ih]
      simp [h']
def names (G : List Str) : List (Key × D) := G.map fun x => (.inr x, .int 0)
theorem mem_dict (G : List Str) : Mem (.dict (dkk (mergeD [] (names G)))) fun x => decide (x ∈ G) := fun x st => by
  have e : inD (.str x) (.d (.dict (dkk (mergeD [] (names G))))) st = some (decide (x ∈ G)) := by
    show (dicGet (dicD (dkk (mergeD [] (names G)))) (.str x)).map (·.isSome) = _
    rw [dic_dkk]
    show some (dlook _ (dKey (.inr x))).isSome = _
    congr 1
    rw [Bool.eq_iff_iff, decide_eq_true_iff, look_dkk]
    rw [mem_merge, names, List.map_map]
    constructor
    · rintro (h | h)
      · cases h
      · obtain ⟨z, hz, e⟩ := List.mem_map.mp h
        cases e
        exact hz
    · exact fun h => .inr (List.mem_map.mpr ⟨x, h, rfl⟩)
  show (match inD (.str x) (.d (.dict (dkk (mergeD [] (names G))))) st with | some b => R.ok (Vl.d (.bool (id b))) st | none => .bad) = _
  rw [e]
  rfl
theorem pairs_names : ∀ G : List Str, pairsD (G.map fun x => .tuple [.str x, .int 0]) = some (names G)
  | [] => rfl
  | x :: G => by
    show ((keyOf (.str x)).bind fun j => (pairsD (G.map fun x => PyData.tuple [.str x, .int 0])).map fun l => (j, PyData.int 0) :: l) = _
    rw [pairs_names G]
    rfl
theorem wp_dictP {st : S} {Q : Ob → S → Prop} {G : List Str} (q : Q (.dk (mergeD [] (names G))) st) (h : G.length ≤ sizeLine) : wp (fDictP [.d (.list (G.map fun x => .tuple [.str x, .int 0]))] st) Q := by
  have e : (seqOf (.d (.list (G.map fun x => PyData.tuple [.str x, .int 0]))) st).bind pairsD = some (names G) := pairs_names G
  show wp (match (seqOf (.d (.list (G.map fun x => PyData.tuple [.str x, .int 0]))) st).bind pairsD with
    | some prs => if prs.length ≤ sizeLine then .ok (.dk (mergeD [] prs)) st else .bad
    | none => .bad) Q
  rw [e]
  dsimp only
  rw [if_pos (by rw [names, List.length_map]; exact h)]
  exact wp_ok q
mutual
theorem nd_enc : ∀ f : Fm, nd (enc f) ≤ 2 * sz f
  | .gift x => by simp [enc, nd, nds, sz]
  | .node w ps => by
    have := nds_encs ps
    show 1 + (nds (encs ps) + 1 + 0) + 1 ≤ 2 * (szs ps + 3)
    omega
theorem nds_encs : ∀ ps : List Fm, nds (encs ps) ≤ 2 * szs ps
  | [] => Nat.zero_le _
  | f :: ps => by
    have := nd_enc f
    have := nds_encs ps
    show nd (enc f) + nds (encs ps) ≤ 2 * (sz f + szs ps)
    omega
end
def base5 : List Str := [Str.ofString "g", Str.ofString "h", Str.ofString "k", Str.ofString "l", Str.ofString "m"]
theorem sh5 : ∀ x ∈ base5, Sh (.str x) := by
  intro x hx
  simp only [base5, List.mem_cons, List.not_mem_nil, or_false] at hx
  rcases hx with rfl | rfl | rfl | rfl | rfl <;> exact ⟨by decide +kernel, by decide +kernel⟩
theorem shz : Sh (.str (Str.ofString "zz")) := ⟨by decide +kernel, by decide +kernel⟩
theorem strs_ex : ∀ {es : List D}, (∀ d ∈ es, ∃ x : Str, d = .str x) → ∃ T : List Str, es = T.map .str
  | [], _ => ⟨[], rfl⟩
  | d :: es, h => by
    obtain ⟨x, rfl⟩ := h d (List.mem_cons_self ..)
    obtain ⟨T, rfl⟩ := strs_ex fun d hd => h d (List.mem_cons_of_mem _ hd)
    exact ⟨x :: T, rfl⟩
theorem first_ex {v : Int} (h0 : 0 ≤ v) (h1 : v < 5) : ∃ ns : List Str, cutL (base5.map PyData.str) none (some (1 + v)) = ns.map .str ∧ ns ≠ [] ∧ ns.length ≤ 5 ∧ ∀ x ∈ ns, x ∈ base5 := by
  refine ⟨cutL base5 none (some (1 + v)), cutL_map _ _ _ _, ?_, cutL_len _ _ _, fun x hx => cutL_sub hx⟩
  obtain rfl | rfl | rfl | rfl | rfl : v = 0 ∨ v = 1 ∨ v = 2 ∨ v = 3 ∨ v = 4 := by omega
  all_goals decide
theorem cut_ex {es : List D} {ns : List Str} {b : Option Int} (h : ∀ d ∈ es, d ∈ ns.map PyData.str) (hl : es.length ≤ ns.length) : ∃ T : List Str, cutL es none b = T.map .str ∧ T.length ≤ ns.length := by
  obtain ⟨T, e⟩ := strs_ex (es := cutL es none b) fun d hd => by
    obtain ⟨x, _, rfl⟩ := List.mem_map.mp (h d (cutL_sub hd))
    exact ⟨x, rfl⟩
  refine ⟨T, e, ?_⟩
  have := cutL_len es none b
  rw [e, List.length_map] at this
  omega
mutual
theorem on_imp {p q : Str → Prop} (h : ∀ x, p x → q x) : ∀ f : Fm, On p f → On q f
  | .gift x, k => h x k
  | .node _ ps, k => ons_imp h ps k
theorem ons_imp {p q : Str → Prop} (h : ∀ x, p x → q x) : ∀ ps : List Fm, Ons p ps → Ons q ps
  | [], _ => trivial
  | f :: ps, k => ⟨on_imp h f k.1, ons_imp h ps k.2⟩
end
theorem wp_slL {st : S} {Q : Vl → S → Prop} {xs : List D} {a b : Option Int} (q : Q (.d (.list (cutL xs a b))) st) : wp (opSl (.d (.list xs)) a b st) Q := wp_ok q
end RA
set_option Elab.async false
set_option linter.all false
set_option maxRecDepth 100000
set_option maxHeartbeats 400000
namespace RA
open PySem PySem.Spec PyProof.Rows L2
/-! defs that answer a datum and leave the store; rules for whole walks -/
def Is (F : Fn) (args : List Vl) (d : D) : Prop := ∀ sto, F args sto = .ok (.v (.d d)) sto
theorem is_fun {n : Nat} {m : S → Out} {args : List Vl} {d : D} (h : ∀ sto, ws (m (entry n args sto)) ⟨fun s => d = .none ∧ s.sto = sto, fun r s => r = .v (.d d) ∧ s.sto = sto, fun _ => False, fun _ => False⟩) : Is (mFun n m) args d := fun sto => by
  obtain ⟨x, s, e, rfl, rfl⟩ := wf_fun (n := n) (m := m) (vs := args) (sto := sto) (Q := fun r s' => r = .v (.d d) ∧ s' = sto) (ws_mono (h sto) (fun s ⟨h1, h2⟩ => ⟨by rw [h1], by rw [h2]; exact List.take_length⟩) (fun r s ⟨h1, h2⟩ => by
    subst h1
    exact ⟨rfl, by rw [h2]; exact List.take_length⟩) (fun _ h => h) fun _ h => h)
  exact e
theorem Is.wf {F : Fn} {args : List Vl} {d : D} (e : Is F args d) {sto : List Ob} {Q : Rt → List Ob → Prop} (q : Q (.v (.d d)) sto) : wf (F args sto) Q := ⟨_, _, e sto, q⟩
theorem wp_is {F : Fn} {args : List Vl} {d : D} {st : S} {Q : Vl → S → Prop} (e : Is F args d) (q : Q (.d d) st) (hn : args.all notOwn = true := by rfl) : wp (callV F args st) Q := wp_V hn (e.wf q)
theorem Is.of_wf {F : Fn} {args : List Vl} {d : D} (h : ∀ sto, RA.wf (F args sto) fun r s => r = .v (.d d) ∧ s = sto) : Is F args d := fun sto => by
  obtain ⟨x, s, e, rfl, rfl⟩ := h sto
  exact e
/-- a comprehension that changes nothing, without a test -/
theorem wp_mapC {α : Type} {st : S} {QO : Ob → S → Prop} {mi : S → R Src} {bind : D → S → Option S} {me : S → R Vl} {vs : List Nat} (L : List α) (e : α → D) (g : α → D)
    (hi : wp (mi st) fun p s => s = st ∧ (∀ s, p.chk s) ∧ p.items = L.map e) (hb : ∀ a ∈ L, ∃ s1, bind (e a) (st.wipe vs) = some s1 ∧ wp (me s1) fun w s3 => w = .d (g a) ∧ s3.wipe vs = st.wipe vs)
    (q : QO (.lst (L.map g)) (st.wipe vs)) : wp (mComp mi bind tYes1 me vs st) QO :=
  wp_compA L e (fun _ => true) g (wp_mono hi fun p s ⟨hs, hc, hp⟩ => ⟨hc, hp, fun a ha => by
    subst hs
    obtain ⟨s1, h1, h2⟩ := hb a ha
    exact ⟨s1, h1, wp_yes ⟨rfl, by rw [if_pos rfl]; exact h2⟩⟩, by subst hs; rw [filt]; exact q⟩)
/-- .. with a test -/
theorem wp_filC {α : Type} {st : S} {QO : Ob → S → Prop} {mi : S → R Src} {bind : D → S → Option S} {tt : S → R Bool} {me : S → R Vl} {vs : List Nat} (L : List α) (e : α → D) (keep : α → Bool) (g : α → D)
    (hi : wp (mi st) fun p s => s = st ∧ (∀ s, p.chk s) ∧ p.items = L.map e) (hb : ∀ a ∈ L, ∃ s1, bind (e a) (st.wipe vs) = some s1 ∧ wp (tt s1) fun b s2 => b = keep a ∧ s2 = s1 ∧ (keep a = true → wp (me s1) fun w s3 => w = .d (g a) ∧ s3.wipe vs = st.wipe vs) ∧ s1.wipe vs = st.wipe vs)
    (q : QO (.lst ((L.filter keep).map g)) (st.wipe vs)) : wp (mComp mi bind tt me vs st) QO :=
  wp_compA L e keep g (wp_mono hi fun p s ⟨hs, hc, hp⟩ => ⟨hc, hp, fun a ha => by
    subst hs
    obtain ⟨s1, h1, h2⟩ := hb a ha
    refine ⟨s1, h1, wp_mono h2 fun b s2 ⟨h3, h4, h5, h6⟩ => ⟨h3, ?_⟩⟩
    subst h4
    by_cases hk : b = true
    · rw [if_pos hk]; exact h5 (h3 ▸ hk)
    · rw [if_neg hk]; exact h6, by subst hs; exact q⟩)
/-- a for over data, by its steps -/
theorem ws_forF {α β : Type} {st : S} {C : Cs} {mi : S → R Src} {bind : D → S → Option S} {body : S → Out} (L : List α) (e : α → D) (step : β → α → β) (b0 : β) (σ : β → S → Prop)
    (hi : wp (mi st) fun p s => p.fix = false ∧ (∀ s, p.chk s) ∧ p.items = L.map e ∧ σ b0 s)
    (hb : ∀ pre a post s, L = pre ++ a :: post → σ (pre.foldl step b0) s → ∃ s1, bind (e a) s = some s1 ∧ ws (body s1) ⟨σ (step (pre.foldl step b0) a), C.rt, C.nx, σ (step (pre.foldl step b0) a)⟩)
    (hd : ∀ s, σ (L.foldl step b0) s → C.nx s) : ws (sFor mi bind body st) C := by
  refine ws_for (wp_mono hi fun p s ⟨h1, h2, h3, h4⟩ => ⟨h1, h2, fun xs s => ∃ pre post, L = pre ++ post ∧ xs = post.map e ∧ σ (pre.foldl step b0) s, ⟨[], L, rfl, h3, h4⟩, ?_, ?_⟩)
  · rintro s ⟨pre, post, e1, e2, h⟩
    obtain rfl : post = [] := List.map_eq_nil_iff.mp e2.symm
    rw [List.append_nil] at e1
    subst e1
    exact hd s h
  · rintro x xs s ⟨pre, post, e1, e2, h⟩
    cases post with
    | nil => cases e2
    | cons a post =>
      simp only [List.map_cons, List.cons.injEq] at e2
      obtain ⟨rfl, rfl⟩ := e2
      obtain ⟨s1, e3, h3⟩ := hb pre a post s e1 h
      have go : ∀ s, σ (step (pre.foldl step b0) a) s → ∃ pre' post', L = pre' ++ post' ∧ post.map e = post'.map e ∧ σ (pre'.foldl step b0) s := fun s h => ⟨pre ++ [a], post, by rw [e1, List.append_assoc]; rfl, rfl, by rw [List.foldl_append]; exact h⟩
      exact ⟨s1, e3, ws_mono h3 go (fun _ _ h => h) (fun _ h => h) go⟩
/-- chains of two comparisons -/
theorem wp_chain {f g : Vl → Vl → S → R Vl} {ma mb mc : S → R Vl} {st : S} {Q : Vl → S → Prop} (h : wp (ma st) fun x s1 => wp (mb s1) fun y s2 => wp (f x y s2) (isB fun b s3 => if b = true then wp (mc s3) fun z s4 => wp (g y z s4) Q else Q (.d (.bool false)) s3)) : wp (mChain f g ma mb mc st) Q :=
  wp_bind (wp_mono h fun x s1 h => wp_bind (wp_mono h fun y s2 h => wp_bind (wp_bind (wp_mono h fun w s3 ⟨b, e, h⟩ => by
    subst e
    refine wp_ok ?_
    cases b with
    | true => exact wp_bind h
    | false => exact wp_ok h))))
theorem ws_par {i j : Nat} {ma mb : S → R Vl} {st : S} {C : Cs} (h : wp (ma st) fun x s1 => wp (mb s1) fun y s2 => toSl i (fun s3 => toSl j C.nx y s3) x s2) : ws (sPar i j ma mb st) C :=
  ws_out (wp_mono h fun x s1 h => ws_out (wp_mono h fun y s2 ⟨l, e, k, e2, h⟩ => by
    unfold setW
    rw [e]
    simp only [Option.map_some, Option.bind_some]
    rw [e2]
    exact h))
theorem wp_itemsA {ma : S → R Vl} {st : S} {Q : Src → S → Prop} (h : wp (ma st) fun x s => wp (fItemsA x s) Q) : wp (mItemsA ma st) Q := wp_bind h
theorem wp_zip {ma mb : S → R Vl} {st : S} {Q : Src → S → Prop} (h : wp (ma st) fun x s => wp (mb s) fun y s2 => wp (fZip [x, y] s2) Q) : wp (mZip ma mb st) Q :=
  wp_bind (wp_bind (wp_mono h fun x s h => wp_bind (wp_bind (wp_mono h fun y s2 h => wp_ok (wp_ok h)))))
theorem wp_star {ma : S → R Vl} {ms : S → R (List Vl)} {st : S} {Q : List Vl → S → Prop} (h : wp (ma st) fun x s => ∃ ds, itemsOf x s = some ds ∧ wp (ms s) fun xs s2 => Q (ds.map .d ++ xs) s2) : wp (aStar ma ms st) Q :=
  wp_bind (wp_mono h fun x s ⟨ds, e, h⟩ => by
    rw [e]
    exact wp_bind (wp_mono h fun xs s2 h => wp_ok h))
theorem datas_map : ∀ ds : List D, datas (ds.map .d) = some ds
  | [] => rfl
  | d :: ds => by simp [datas_map ds]
theorem datas_star : ∀ (ds : List D) (ws : List Vl), datas (ds.map .d ++ ws) = (datas ws).map (ds ++ ·)
  | [], ws => by rw [List.map_nil, List.nil_append]; cases datas ws <;> rfl
  | d :: ds, ws => by
    rw [List.map_cons, List.cons_append, datas_cons, datas_star ds ws]
    cases datas ws <;> rfl
theorem ints_map : ∀ bs : List Int, intsD (bs.map .int) = some bs
  | [] => rfl
  | b :: bs => by simp [intsD, ints_map bs]
theorem wp_max {st : S} {Q : Vl → S → Prop} {bs : List Int} {ds : List D} (e : ds = bs.map .int) (hn : bs ≠ []) (q : Q (.d (.int (maxI bs))) st) : wp (fMax [.d (.list ds)] st) Q := by
  subst e
  show wp (match intsD (bs.map .int) with | some bs => if bs = [] then .bad else R.ok (Vl.d (.int (maxI bs))) st | none => .bad) Q
  rw [ints_map]
  dsimp only
  rw [if_neg hn]
  exact wp_ok q
theorem wp_sum {st : S} {Q : Vl → S → Prop} {bs : List Int} {ds : List D} (e : ds = bs.map .int) (q : Q (.d (.int bs.sum)) st) : wp (fSum [.d (.list ds)] st) Q := by
  subst e
  show wp (match intsD (bs.map .int) with | some bs => R.ok (Vl.d (.int bs.sum)) st | none => .bad) Q
  rw [ints_map]
  exact wp_ok q
theorem wp_neg {st : S} {Q : Vl → S → Prop} {i : Int} (q : Q (.d (.int (-i))) st) : wp (opNeg (.d (.int i)) st) Q := wp_ok q
/-- a store d[k] = v -/
theorem ws_storeK {mv mo mi : S → R Vl} {st : S} {C : Cs} (h : wp (mv st) fun w s1 => wp (mo s1) fun x s2 => wp (mi s2) fun j s3 => wp (opStoreK x j w s3) fun _ s4 => C.nx s4) : ws (sStoreK mv mo mi st) C := ws_out (wp_mono h fun _ _ h => ws_out (wp_mono h fun _ _ h => ws_out (wp_mono h fun _ _ h => ws_out h)))
theorem wp_storeK {st : S} {Q : Unit → S → Prop} {x : Vl} {kd z : D} {k : Key} {kvs : List (Key × D)} (e1 : keyOf kd = some k) (e2 : obOf x st = some (.dk kvs)) (h : kvs.length < 1000000) (q : Q () (st.put x (.dk (putD kvs k z)))) : wp (opStoreK x (.d kd) (.d z) st) Q := by
  unfold opStoreK
  dsimp only
  rw [e1, e2]
  dsimp only
  rw [if_pos h]
  exact wp_ok q
theorem wp_pop {st : S} {Q : Vl → S → Prop} {x : Vl} {ds : List D} {y : D} (e : lsOf x st = some (ds ++ [y])) (q : Q (.d y) (st.put x (.lst ds))) : wp (fPop x [] st) Q := by
  have e2 : (ds ++ [y])[(ds ++ [y]).length - 1]? = some y := by simp
  have e3 : (ds ++ [y]).dropLast = ds := by simp
  unfold fPop
  rw [e]
  dsimp only
  rw [e2, e3]
  exact wp_ok q
theorem szl {n : Nat} (h : n ≤ 1000000) : n ≤ sizeLine := Nat.le_trans h (by decide)
end RA
set_option Elab.async false
set_option linter.all false
set_option maxRecDepth 100000
set_option maxHeartbeats 400000
/-! xs.extend(t), t a tuple or a list -/
namespace PySem.AutoSeq1
theorem ra_extend_tup (l : Addr) (items : Array Value) (n : Nat) (b : Addr) (items2 : Array Value) (n2 : Nat) (dc : Option Addr) (sl : Array (Option Value)) (hs0 : ¬(!items.isEmpty && Builtin.List.listTooLong (items.size + items2.size)) = true) (hs1 : items.size ≤ sizeLine) (hs2 : items.size + items2.size ≤ sizeLine + 1) :
    Meets (Builtin.«list.extend» ⟨[.ref l, .ref b], []⟩) (fun _ R s => s.heap.get? l = some { cls := .type "list", dict := none, data := .seq items n, slots := #[] } ∧ s.heap.get? b = some { cls := .type "tuple", dict := dc, data := .seq items2 n2, slots := sl } ∧ R (.ok (.ret Value.none)) { s with heap := s.heap.update l (Obj.mapSeq fun x => x ++ items2), toks := s.toks }) :=
  .of_wp fun prog w A R s h => by
    obtain ⟨hp, g, d, tk, os⟩ := s; obtain ⟨hl, hb, h⟩ := h; have f1 := idx_int; have f2 := sub_tuple_tuple; have f3 := sub_list_list; have f4 := sub_tuple_list; have f5 := sub_list_tuple;
    have hz' : (items ++ items2).size ≤ sizeLine + 1 := by rw [Array.size_append]; exact hs2
    wp_walk using (wpAny_updateSeq hl rfl (hz := hs1) (_hz' := hz')), wpAny_loadPart' hl, wpAny_loadPart' hb; exact ⟨_, rfl, h⟩
end PySem.AutoSeq1
namespace RA
open PySem PySem.Spec PyProof.Rows L2
section
variable {X : Cx}
def rExtendT (K : PySem.W.Frag) : V → List V → Hp → VK → Prop := fun x vs H Q => ∃ l b xs zs, x = .ref l ∧ vs = [.ref b] ∧ H l = some (.lst xs) ∧ SqT K H b zs ∧ xs.length + zs.length ≤ sizeLine ∧ Q .non (upd H l (.lst (xs ++ zs)))
theorem mt_extendT : MtM X "list.extend" (rExtendT X.K) := by
  intro pins s σ H x vs v us Q I rx rv h
  obtain ⟨l, b, xs, zs, rfl, rfl, hH, hB, hz, q⟩ := h
  cases rx
  obtain ⟨u, rfl, ru⟩ := rv.one
  cases ru
  obtain ⟨z, its, n, r, hl, e⟩ := I.lstM hH
  obtain ⟨its2, r2, ⟨o2, e2, hc2, n2, hd2⟩, z2⟩ := I.tuple hB
  have hl2 := r2.length
  obtain ⟨c2, d2, dt2, sl2⟩ := o2
  simp only at hc2 hd2
  subst hc2 hd2
  have hsz : its.toArray.size + its2.toArray.size ≤ sizeLine := by rw [List.size_toArray, List.size_toArray]; omega
  have hlong : ¬ (!its.toArray.isEmpty && Builtin.List.listTooLong (its.toArray.size + its2.toArray.size)) = true := by
    rw [notLongL hsz, Bool.and_false]
    exact Bool.false_ne_true
  refine call_meets F.slot_list_extend ⟨_, e, rfl⟩ F.entry_list_extend (F.args_list_extend_2 _ _)
    (AutoSeq1.ra_extend_tup l its.toArray n b its2.toArray n2 d2 sl2 hlong (by rw [List.size_toArray]; omega) (by omega)) ⟨e, e2, ?_⟩
  refine ⟨.non, _, I.lset (its' := its ++ its2) hH e (by simp) (r.append r2) ?_, rfl, q⟩
  rw [List.length_append]
  omega
def rExtendA (K : PySem.W.Frag) : V → List V → Hp → VK → Prop := fun x vs H Q => rExtend x vs H Q ∨ rExtendT K x vs H Q
theorem mt_extendA : MtM X "list.extend" (rExtendA X.K) := fun pins s σ H x vs v us Q I rx rv h => h.elim (mt_extend pins s σ H x vs v us Q I rx rv) (mt_extendT pins s σ H x vs v us Q I rx rv)
end
def fExtendA (x : Vl) (ws : List Vl) (st : S) : R Vl := match ws with
  | [y] => (match tupOf y with
    | some es => (match lsOf x st with
      | some ds => if ds.length + es.length ≤ sizeLine then .ok (.d .none) (st.put x (.lst (ds ++ es))) else .bad
      | none => .bad)
    | none => fExtend x [y] st)
  | _ => .bad
section
variable {K : PySem.W.Frag} {mg : Str → Option Value} {W : WX}
theorem sm_extendA : SMt K mg W "list" (rExtendA K) isLs fExtendA := ⟨ty_ls, fun A H σ st v vs x xs Q sr r rs p => by
  unfold fExtendA at p
  split at p
  · rename_i y
    obtain ⟨u, rfl, ru⟩ := rws1 rs
    split at p
    · rename_i es ey
      split at p
      · rename_i ds e
        split at p
        · rename_i hlt
          obtain ⟨a, rfl, ⟨us, h1, h2⟩, hl, nt⟩ := obOf_at sr r (lsOf_ob e)
          obtain ⟨b, zs, rfl, g1, g2⟩ := tupOf_at ru ey
          have hz : us.length + zs.length ≤ sizeLine := by rw [h2.length, g2.length]; exact hlt
          have hz2 : hsz (.lst (us ++ zs)) ≤ sizeLine := by
            show (us ++ zs).length ≤ _
            rw [List.length_append]; exact hz
          exact .inr ⟨a, b, us, zs, rfl, rfl, h1, g1, hz, p _ (stp_updL hl nt) (sr.put r (lsOf_ob e) hz2 ⟨_, upd_same, (h2.append g2).mono (kp_updL hl)⟩) _ .non⟩
        · exact p.elim
      · exact p.elim
    · exact .inl (sm_extend.2 A H σ st v [u] x [y] Q sr r (.cons ru .nil) p)
  · exact p.elim⟩
end
section
variable {X : Cx} {W : WX} {e o : Expr} {es : List Expr} {mo : S → R Vl}
theorem x_extendA {apos cpos : Pos} {ms : S → R (List Vl)} (ho : AE X W o mo) (ha : AA X W (e :: es) ms) (hbase : attributeBase o "extend" X.env (eval o X.env) = eval o X.env := by rfl)
    (hfew : ((backTo cpos (starEach (e :: es) X.env)).all (fun x => !x.1) && (backToKw cpos (keywordEach [] X.env)).all (fun x => x.1.isSome)
      && decide ((e :: es).length + ([] : List Keyword).length + (if ([] : List Keyword).isEmpty then 0 else 1) < 30)) = true := by rfl)
    (hline : (apos.endLine == cpos.line) = true := by rfl) (hs : starEach (e :: es) X.env = (false, eval e X.env) :: starEach es X.env := by rfl) (hplain : (backTo cpos (starEach es X.env)).any (·.1) = false := by rfl) :
    AE X W (.Call (.Attribute o "extend" apos) (e :: es) [] cpos) (mMt isLs fExtendA mo ms) :=
  ae_mt sm_extendA (pe_bm PySem.F.plainAttrs_list PySem.F.slot_list_extend PySem.F.type_list_extend mt_extendA ho ha hbase hfew hline hs hplain)
end
theorem wp_extT {st : S} {Q : Vl → S → Prop} {x : Vl} {ds es : List D} (e : lsOf x st = some ds) (q : Q (.d .none) (st.put x (.lst (ds ++ es)))) (h : ds.length + es.length ≤ sizeLine) : wp (fExtendA x [.d (.tuple es)] st) Q := by
  show wp (match lsOf x st with
      | some ds => if ds.length + es.length ≤ sizeLine then .ok (.d .none) (st.put x (.lst (ds ++ es))) else .bad
      | none => .bad) Q
  rw [e]
  dsimp only
  rw [if_pos h]
  exact wp_ok q
theorem wp_extA {x y : Vl} {st : S} {Q : Vl → S → Prop} {ds es : List D} (e : lsOf x st = some ds) (e2 : lstOf y st = some es) (q : Q (.d .none) (st.put x (.lst (ds ++ es)))) (h : ds.length + es.length ≤ sizeLine) : wp (fExtendA x [y] st) Q := by
  have e3 : tupOf y = none := by
    cases y with
    | d z => cases z <;> first | rfl | cases e2
    | kt z => cases e2
    | loc _ => rfl
    | own _ => rfl
    | frz _ => rfl
  have e4 : fExtendA x [y] st = fExtend x [y] st := by
    unfold fExtendA
    dsimp only
    rw [e3]
  rw [e4]
  exact wp_ext e e2 q h
end RA
set_option Elab.async false
set_option linter.all false
set_option maxRecDepth 100000
set_option maxHeartbeats 400000
namespace RA
open PySem PySem.Spec PyProof.Rows L2
/-! pure expressions: what they answer, the state as it was -/
def PV (ma : S → R Vl) (s : S) (v : Vl) : Prop := ma s = .ok v s
def TB (t : S → R Bool) (s : S) (b : Bool) : Prop := t s = .ok b s
def PL (ms : S → R (List Vl)) (s : S) (vs : List Vl) : Prop := ms s = .ok vs s
def PO (mo : S → R Ob) (s : S) (ob : Ob) : Prop := mo s = .ok ob s
def PJ (mi : S → R Src) (s : S) (is : List D) : Prop := ∃ p, mi s = .ok p s ∧ p.fix = false ∧ (∀ s, p.chk s) ∧ p.items = is
def PI' (mo : S → R (Option Int)) (s : S) (o : Option Int) : Prop := mo s = .ok o s
/-- an operator's answer, a call's -/
def A2 (f : Vl → Vl → S → R Vl) (x y : Vl) (s : S) (z : Vl) : Prop := f x y s = .ok z s
def A1 (f : Vl → S → R Vl) (x : Vl) (s : S) (z : Vl) : Prop := f x s = .ok z s
def AL (f : List Vl → S → R Vl) (xs : List Vl) (s : S) (z : Vl) : Prop := f xs s = .ok z s
def AO' (f : List Vl → S → R Ob) (xs : List Vl) (s : S) (z : Ob) : Prop := f xs s = .ok z s
def AJ (f : Vl → S → R Src) (x : Vl) (s : S) (is : List D) : Prop := ∃ p, f x s = .ok p s ∧ p.fix = false ∧ (∀ s, p.chk s) ∧ p.items = is
section
variable {s st : S} {ma mb mc : S → R Vl} {x y z : Vl} {t u : S → R Bool} {b c : Bool} {ms : S → R (List Vl)} {mo : S → R Ob} {d e : D}
theorem PV.wp {Q : Vl → S → Prop} (h : PV ma s x) (q : Q x s) : wp (ma s) Q := ⟨_, _, h, q⟩
theorem TB.wp {Q : Bool → S → Prop} (h : TB t s b) (q : Q b s) : wp (t s) Q := ⟨_, _, h, q⟩
theorem PO.wp {Q : Ob → S → Prop} {ob : Ob} (h : PO mo s ob) (q : Q ob s) : wp (mo s) Q := ⟨_, _, h, q⟩
theorem PV.of_wp (h : RA.wp (ma s) fun v s' => v = x ∧ s' = s) : PV ma s x := by
  obtain ⟨v, s', e, rfl, rfl⟩ := h
  exact e
theorem TB.of_wp (h : RA.wp (t s) fun v s' => v = b ∧ s' = s) : TB t s b := by
  obtain ⟨v, s', e, rfl, rfl⟩ := h
  exact e
theorem PO.of_wp {ob : Ob} (h : RA.wp (mo s) fun v s' => v = ob ∧ s' = s) : PO mo s ob := by
  obtain ⟨v, s', e, rfl, rfl⟩ := h
  exact e
theorem ws_ifP {C : Cs} {m1 m2 : S → Out} (h : TB t st b) (h1 : b = true → ws (m1 st) C) (h2 : b = false → ws (m2 st) C) : ws (sIf t m1 m2 st) C :=
  ws_if (h.wp (by cases b with
    | true => rw [if_pos rfl]; exact h1 rfl
    | false => rw [if_neg Bool.false_ne_true]; exact h2 rfl))
theorem ws_retP {C : Cs} {w : Vl} (h : PV ma st w) (q : C.rt (.v w) st) : ws (sRet ma st) C := ws_ret (h.wp q)
theorem ws_setP {C : Cs} {i : Nat} {d : D} (h : PV ma st (.d d)) (q : C.nx (st.set i (.d d))) : ws (sSet i ma st) C := ws_set (h.wp (toSl_d q))
theorem pv_C {d : D} : PV (mC d) s (.d d) := rfl
theorem pv_d {i : Nat} {d : D} (e : s.env[i]? = some (.d d)) : PV (mVar i) s (.d d) := by unfold PV mVar; rw [e]
theorem pv_l {i n : Nat} (e : s.env[i]? = some (.loc n)) : PV (mVar i) s (.loc n) := by unfold PV mVar; rw [e]
theorem pv_o {i : Nat} {o : Ob} (e : s.env[i]? = some (.own o)) : PV (mVar i) s (.own i) := by unfold PV mVar; rw [e]
theorem pv_f {i : Nat} {ds : List D} (e : s.env[i]? = some (.frz ds)) : PV (mVar i) s (.frz ds) := by unfold PV mVar; rw [e]
theorem pv_kt {ds : List D} : PV (mKT ds) s (.kt ds) := rfl
theorem pv_m2 {f : Vl → Vl → S → R Vl} (ha : PV ma s x) (hb : PV mb s y) (h : A2 f x y s z) : PV (m2 f ma mb) s z := by unfold PV m2; rw [ha, R.bind_ok, hb, R.bind_ok]; exact h
theorem pv_m1 {f : Vl → S → R Vl} (ha : PV ma s x) (h : A1 f x s z) : PV (m1 f ma) s z := by unfold PV m1; rw [ha, R.bind_ok]; exact h
theorem pv_call {f : List Vl → S → R Vl} {xs : List Vl} (ha : PL ms s xs) (h : AL f xs s z) : PV (mCall f ms) s z := by unfold PV mCall; rw [ha, R.bind_ok]; exact h
theorem po_callF {f : List Vl → S → R Ob} {xs : List Vl} {ob : Ob} (ha : PL ms s xs) (h : AO' f xs s ob) : PO (mCallF f ms) s ob := by unfold PO mCallF; rw [ha, R.bind_ok]; exact h
theorem pl_nil : PL aNil s [] := rfl
theorem pl_cons {xs : List Vl} (ha : PV ma s x) (h : PL ms s xs) : PL (aCons ma ms) s (x :: xs) := by unfold PL aCons; rw [ha, R.bind_ok, h, R.bind_ok]
theorem pl_star {xs : List Vl} {ds : List D} (ha : PV ma s x) (e : itemsOf x s = some ds) (h : PL ms s xs) : PL (aStar ma ms) s (ds.map .d ++ xs) := by unfold PL aStar; rw [ha, R.bind_ok, e]; dsimp only; rw [h, R.bind_ok]
theorem pv_tup {ws : List Vl} {ds : List D} (h : PL ms s ws) (e : datas ws = some ds) (hz : ds.length ≤ sizeLine) : PV (mTup ms) s (.d (.tuple ds)) := by
  unfold PV mTup; rw [h, R.bind_ok, e]; dsimp only; rw [if_pos hz]
theorem po_lst {ws : List Vl} {ds : List D} (h : PL ms s ws) (e : datas ws = some ds) (hz : ds.length ≤ sizeLine) : PO (mLst ms) s (.lst ds) := by
  unfold PO mLst; rw [h, R.bind_ok, e]; dsimp only; rw [if_pos hz]
theorem po_dnew : PO mDnew s (.dk []) := rfl
theorem pv_frz {ob : Ob} (h : PO mo s ob) (e : ob.frzOk = true) : PV (mFrz mo) s (.d ob.dat) := by unfold PV mFrz; rw [h, R.bind_ok, if_pos e]
theorem pv_frzL {ds : List D} (h : PO mo s (.lst ds)) : PV (mFrz mo) s (.d (.list ds)) := pv_frz h rfl
theorem pv_if (h : TB t s b) (ha : b = true → PV ma s x) (hb : b = false → PV mb s y) : PV (mIf t ma mb) s (if b then x else y) := by
  unfold PV mIf; rw [h, R.bind_ok]
  cases b with
  | true => exact ha rfl
  | false => exact hb rfl
theorem pv_ifD {d e : D} (h : TB t s b) (ha : b = true → PV ma s (.d d)) (hb : b = false → PV mb s (.d e)) : PV (mIf t ma mb) s (.d (if b then d else e)) := by
  unfold PV mIf; rw [h, R.bind_ok]
  cases b with
  | true => exact ha rfl
  | false => exact hb rfl
theorem tb_B (h : PV ma s (.d (.bool b))) : TB (mB ma) s b := by unfold TB mB; rw [h]; rfl
theorem tb_yes : TB tYes1 s true := rfl
theorem tb_not (h : TB t s b) : TB (mNot t) s (!b) := by unfold TB mNot; rw [h]; rfl
theorem tb_and (h : TB t s b) (g : b = true → TB u s c) : TB (mAnd t u) s (b && c) := by
  unfold TB mAnd; rw [h, R.bind_ok]
  cases b with
  | true => rw [if_pos rfl]; exact g rfl
  | false => rfl
theorem tb_or (h : TB t s b) (g : b = false → TB u s c) : TB (mOr t u) s (b || c) := by
  unfold TB mOr; rw [h, R.bind_ok]
  cases b with
  | true => rfl
  | false => rw [if_neg Bool.false_ne_true]; exact g rfl
theorem pv_andV (h : TB (mB ma) s b) (g : b = true → PV mb s (.d (.bool c))) : PV (mAndV ma mb) s (.d (.bool (b && c))) := by
  unfold PV mAndV; rw [h, R.bind_ok]
  cases b with
  | true => rw [if_pos rfl]; exact g rfl
  | false => rfl
theorem pv_orV (h : TB (mB ma) s b) (g : b = false → PV mb s (.d (.bool c))) : PV (mOrV ma mb) s (.d (.bool (b || c))) := by
  unfold PV mOrV; rw [h, R.bind_ok]
  cases b with
  | true => rfl
  | false => rw [if_neg Bool.false_ne_true]; exact g rfl
theorem pv_notV (h : TB (mB ma) s b) : PV (mNotV ma) s (.d (.bool (!b))) := by unfold PV mNotV; rw [h]; rfl
theorem pv_chain {f g : Vl → Vl → S → R Vl} (ha : PV ma s x) (hb : PV mb s y) (h : A2 f x y s (.d (.bool b))) (hc : b = true → PV mc s z) (h2 : b = true → A2 g y z s (.d (.bool c))) : PV (mChain f g ma mb mc) s (.d (.bool (b && c))) := by
  unfold PV mChain; rw [ha, R.bind_ok, hb, R.bind_ok, h]
  cases b with
  | true =>
    show (R.ok true s).bind _ = _
    rw [R.bind_ok, if_pos rfl, hc rfl, R.bind_ok]
    exact h2 rfl
  | false => rfl
theorem pi_N : PI' oNone s none := rfl
theorem pi_S {i : Int} (h : PV ma s (.d (.int i))) : PI' (oSome ma) s (some i) := by unfold PI' oSome; rw [h]; rfl
theorem pv_sl {ml mh : S → R (Option Int)} {l h : Option Int} (ha : PV ma s x) (hl : PI' ml s l) (hh : PI' mh s h) (g : opSl x l h s = .ok z s) : PV (mSl ma ml mh) s z := by
  unfold PV mSl; rw [ha, R.bind_ok, hl, R.bind_ok, hh, R.bind_ok]; exact g
theorem pj_items {is : List D} (ha : PV ma s x) (h : AJ fItems x s is) : PJ (mItems ma) s is := by
  obtain ⟨p, e, r⟩ := h
  exact ⟨p, by unfold mItems; rw [ha, R.bind_ok, e], r⟩
theorem pj_itemsA {is : List D} (ha : PV ma s x) (h : AJ fItemsA x s is) : PJ (mItemsA ma) s is := by
  obtain ⟨p, e, r⟩ := h
  exact ⟨p, by unfold mItemsA; rw [ha, R.bind_ok, e], r⟩
theorem pj_enum {is : List D} (ha : PV ma s x) (h : AJ fEnum x s is) : PJ (mEnum ma) s is := by
  obtain ⟨p, e, r⟩ := h
  exact ⟨p, by unfold mEnum; rw [ha, R.bind_ok, e], r⟩
theorem pj_src {f : List Vl → S → R Src} {is : List D} {xs : List Vl} (ha : PL ms s xs) (h : ∃ p, f xs s = .ok p s ∧ p.fix = false ∧ (∀ s, p.chk s) ∧ p.items = is) : PJ (mSrc f ms) s is := by
  obtain ⟨p, e, r⟩ := h
  exact ⟨p, by unfold mSrc; rw [ha, R.bind_ok, e], r⟩
theorem pj_zip {is : List D} (ha : PV ma s x) (hb : PV mb s y) (h : ∃ p, fZip [x, y] s = .ok p s ∧ p.fix = false ∧ (∀ s, p.chk s) ∧ p.items = is) : PJ (mZip ma mb) s is := pj_src (pl_cons ha (pl_cons hb pl_nil)) h
theorem aj_lst {ds : List D} : AJ fItemsA (.d (.list ds)) s ds := ⟨_, rfl, rfl, fun _ => trivial, rfl⟩
theorem aj_tup {ds : List D} : AJ fItemsA (.d (.tuple ds)) s ds := ⟨_, rfl, rfl, fun _ => trivial, rfl⟩
theorem aj_kt {ds : List D} : AJ fItemsA (.kt ds) s ds := ⟨_, rfl, rfl, fun _ => trivial, rfl⟩
theorem aj_frz {ds : List D} : AJ fItemsA (.frz ds) s ds := ⟨_, rfl, rfl, fun _ => trivial, rfl⟩
theorem aj_str {z : Str} (h : z.length ≤ sizeLine) : AJ fItemsA (.d (.str z)) s (signsD z) := ⟨_, if_pos h, rfl, fun _ => trivial, rfl⟩
theorem aj_enumL {ds : List D} : AJ fEnum (.d (.list ds)) s (pairD (numD ds.length) ds) := ⟨_, rfl, rfl, fun _ => trivial, rfl⟩
theorem aj_zipT {xs ys : List D} (h : xs.length ≤ sizeLine) : ∃ p, fZip [.d (.tuple xs), .d (.tuple ys)] s = .ok p s ∧ p.fix = false ∧ (∀ s, p.chk s) ∧ p.items = pairD xs ys := ⟨_, if_pos h, rfl, fun _ => trivial, rfl⟩
theorem aj_zipL {xs ys : List D} (h : xs.length ≤ sizeLine) : ∃ p, fZip [.d (.list xs), .d (.list ys)] s = .ok p s ∧ p.fix = false ∧ (∀ s, p.chk s) ∧ p.items = pairD xs ys := ⟨_, if_pos h, rfl, fun _ => trivial, rfl⟩
theorem aj_range1 {j : Int} (h : 0 ≤ j ∧ j ≤ 1000000) : ∃ p, fRange1 [.d (.int j)] s = .ok p s ∧ p.fix = false ∧ (∀ s, p.chk s) ∧ p.items = rangeD 0 j.toNat :=
  ⟨_, if_pos ⟨by omega, by omega, szl (by omega)⟩, rfl, fun _ => trivial, rfl⟩
/-- comprehensions -/
theorem po_map {α : Type} {mi : S → R Src} {bind : D → S → Option S} {me : S → R Vl} {vs : List Nat} {is : List D} (L : List α) (e : α → D) (g : α → D)
    (hi : PJ mi s is) (hL : is = L.map e) (hb : ∀ a ∈ L, ∃ s1, bind (e a) s = some s1 ∧ PV me s1 (.d (g a)) ∧ s1.wipe vs = s) (hw : s.wipe vs = s := by rfl) : PO (mComp mi bind tYes1 me vs) s (.lst (L.map g)) := by
  obtain ⟨p, h1, h2, h3, rfl⟩ := hi
  refine PO.of_wp (wp_mapC L e g ⟨p, s, h1, rfl, h3, hL⟩ (fun a ha => ?_) ⟨rfl, hw⟩)
  obtain ⟨s1, k1, k2, k3⟩ := hb a ha
  rw [hw]
  exact ⟨s1, k1, k2.wp ⟨rfl, k3⟩⟩
theorem po_fil {α : Type} {mi : S → R Src} {bind : D → S → Option S} {tt : S → R Bool} {me : S → R Vl} {vs : List Nat} {is : List D} (L : List α) (e : α → D) (keep : α → Bool) (g : α → D)
    (hi : PJ mi s is) (hL : is = L.map e) (hb : ∀ a ∈ L, ∃ s1, bind (e a) s = some s1 ∧ TB tt s1 (keep a) ∧ (keep a = true → PV me s1 (.d (g a))) ∧ s1.wipe vs = s) (hw : s.wipe vs = s := by rfl) : PO (mComp mi bind tt me vs) s (.lst ((L.filter keep).map g)) := by
  obtain ⟨p, h1, h2, h3, rfl⟩ := hi
  refine PO.of_wp (wp_filC L e keep g ⟨p, s, h1, rfl, h3, hL⟩ (fun a ha => ?_) ⟨rfl, hw⟩)
  obtain ⟨s1, k1, k2, k3, k4⟩ := hb a ha
  rw [hw]
  exact ⟨s1, k1, k2.wp ⟨rfl, rfl, fun h => (k3 h).wp ⟨rfl, k4⟩, k4⟩⟩
/-! operators -/
variable {i j : Int}
theorem a_eqI : A2 opEq (.d (.int i)) (.d (.int j)) s (.d (.bool (decide (i = j)))) := by
  obtain ⟨v, s', e, h⟩ := wp_eqI (i := i) (j := j) (st := s) (Q := fun v s' => v = .d (.bool (decide (i = j))) ∧ s' = s) ⟨rfl, rfl⟩
  obtain ⟨rfl, rfl⟩ := h
  exact e
theorem a_neI : A2 opNe (.d (.int i)) (.d (.int j)) s (.d (.bool (!decide (i = j)))) := by
  obtain ⟨v, s', e, h⟩ := wp_neI (i := i) (j := j) (st := s) (Q := fun v s' => v = .d (.bool (!decide (i = j))) ∧ s' = s) ⟨rfl, rfl⟩
  obtain ⟨rfl, rfl⟩ := h
  exact e
theorem a_eqD (h1 : datOf x s = some d) (h2 : datOf y s = some e) (s1 : SeqAt.shaped d = true) (s2 : SeqAt.shaped e = true) : A2 opEq x y s (.d (.bool (PyData.eqv d e))) := by
  obtain ⟨v, s', e, h⟩ := wp_eqD (Q := fun v s' => v = .d (.bool (PyData.eqv d e)) ∧ s' = s) h1 h2 ⟨rfl, rfl⟩ s1 s2
  obtain ⟨rfl, rfl⟩ := h
  exact e
theorem a_neD (h1 : datOf x s = some d) (h2 : datOf y s = some e) (s1 : SeqAt.shaped d = true) (s2 : SeqAt.shaped e = true) : A2 opNe x y s (.d (.bool (!PyData.eqv d e))) := by
  obtain ⟨v, s', e, h⟩ := wp_neD (Q := fun v s' => v = .d (.bool (!PyData.eqv d e)) ∧ s' = s) h1 h2 ⟨rfl, rfl⟩ s1 s2
  obtain ⟨rfl, rfl⟩ := h
  exact e
theorem a_eqS {x y : Str} (s1 : SeqAt.shaped (.str x) = true) (s2 : SeqAt.shaped (.str y) = true) : A2 opEq (.d (.str x)) (.d (.str y)) s (.d (.bool (decide (x = y)))) := by
  rw [← eqv_str]; exact a_eqD rfl rfl s1 s2
theorem a_neS {x y : Str} (s1 : SeqAt.shaped (.str x) = true) (s2 : SeqAt.shaped (.str y) = true) : A2 opNe (.d (.str x)) (.d (.str y)) s (.d (.bool (!decide (x = y)))) := by
  rw [← eqv_str]; exact a_neD rfl rfl s1 s2
theorem a_nilL {ds : List D} (h : ∀ d ∈ ds, Sh d) : A2 opEq (.d (.list ds)) (.d (.list [])) s (.d (.bool (decide (ds = [])))) := by
  rw [← eqv_nil]; exact a_eqD rfl rfl (shl_shaped h) (by decide)
theorem a_nnilL {ds : List D} (h : ∀ d ∈ ds, Sh d) : A2 opNe (.d (.list ds)) (.d (.list [])) s (.d (.bool (!decide (ds = [])))) := by
  rw [← eqv_nil]; exact a_neD rfl rfl (shl_shaped h) (by decide)
theorem a_eqB : A2 opEq (.d (.bool b)) (.d (.bool c)) s (.d (.bool (b == c))) := by
  obtain ⟨v, s', e, h⟩ := wp_eqB (b := b) (c := c) (st := s) (Q := fun v s' => v = .d (.bool (b == c)) ∧ s' = s) ⟨rfl, rfl⟩
  obtain ⟨rfl, rfl⟩ := h
  exact e
theorem a_neB : A2 opNe (.d (.bool b)) (.d (.bool c)) s (.d (.bool (!(b == c)))) := by
  obtain ⟨v, s', e, h⟩ := wp_neB (b := b) (c := c) (st := s) (Q := fun v s' => v = .d (.bool (!(b == c))) ∧ s' = s) ⟨rfl, rfl⟩
  obtain ⟨rfl, rfl⟩ := h
  exact e
theorem a_addI : A2 opAdd (.d (.int i)) (.d (.int j)) s (.d (.int (i + j))) := rfl
theorem a_subI : A2 opSub (.d (.int i)) (.d (.int j)) s (.d (.int (i - j))) := rfl
theorem a_leI : A2 opLe (.d (.int i)) (.d (.int j)) s (.d (.bool (decide (i ≤ j)))) := rfl
theorem a_ltI : A2 opLt (.d (.int i)) (.d (.int j)) s (.d (.bool (decide (i < j)))) := rfl
theorem a_gtI : A2 opGt (.d (.int i)) (.d (.int j)) s (.d (.bool (decide (j < i)))) := rfl
theorem a_geI : A2 opGe (.d (.int i)) (.d (.int j)) s (.d (.bool (decide (j ≤ i)))) := rfl
theorem a_ltS {x y : Str} : A2 opLt (.d (.str x)) (.d (.str y)) s (.d (.bool (decide (x.cps.toList < y.cps.toList)))) := rfl
theorem a_addL {xs ys : List D} (h : xs.length + ys.length ≤ sizeLine) : A2 opAdd (.d (.list xs)) (.d (.list ys)) s (.d (.list (xs ++ ys))) := if_pos h
theorem a_addT {xs ys : List D} (h : xs.length + ys.length ≤ sizeLine) : A2 opAdd (.d (.tuple xs)) (.d (.tuple ys)) s (.d (.tuple (xs ++ ys))) := if_pos h
theorem a_isi {g : D → Bool} {d : D} (h : noT d = true) : A1 (fIsi g) (.d d) s (.d (.bool (g d))) := if_pos h
theorem a_in {p : Str → Bool} {x : Str} {y : D} (h : Mem y p) : A2 opIn (.d (.str x)) (.d y) s (.d (.bool (p x))) := h x s
theorem a_nin {p : Str → Bool} {x : Str} {y : D} (h : Mem y p) : A2 opNotIn (.d (.str x)) (.d y) s (.d (.bool (!p x))) := by
  obtain ⟨v, s', e, h⟩ := wp_nin (st := s) (x := x) (Q := fun v s' => v = .d (.bool (!p x)) ∧ s' = s) h ⟨rfl, rfl⟩
  obtain ⟨rfl, rfl⟩ := h
  exact e
theorem a_ix {xs : List D} {i : Int} {d : D} (e : atI xs i = some d) : A2 opIx (.d (.tuple xs)) (.d (.int i)) s (.d d) := by
  show (match atI xs i with | some d => R.ok (Vl.d d) s | none => .bad) = _
  rw [e]
theorem a_ixL {xs : List D} {i : Int} {d : D} (e : atI xs i = some d) : A2 opIx (.d (.list xs)) (.d (.int i)) s (.d d) := by
  show (match atI xs i with | some d => R.ok (Vl.d d) s | none => .bad) = _
  rw [e]
theorem a_lenS {z : Str} (h : z.length ≤ sizeLine) : AL fLen [.d (.str z)] s (.d (.int z.length)) := if_pos h
theorem a_lenL {ds : List D} : AL fLen [.d (.list ds)] s (.d (.int ds.length)) := rfl
theorem a_lenT {ds : List D} : AL fLen [.d (.tuple ds)] s (.d (.int ds.length)) := rfl
theorem a_is {F : Fn} {xs : List Vl} {d : D} (e : Is F xs d) (hn : xs.all notOwn = true := by rfl) : AL (callV F) xs s (.d d) := by
  unfold AL callV
  rw [if_pos hn, e s.sto]
theorem a_bools {g : List Bool → Bool} {bs : List Bool} {ds : List D} (e : ds = bs.map .bool) : AL (fBools g) [.d (.list ds)] s (.d (.bool (g bs))) := by
  obtain ⟨v, s', e, h⟩ := wp_bools (st := s) (g := g) (Q := fun v s' => v = .d (.bool (g bs)) ∧ s' = s) e ⟨rfl, rfl⟩
  obtain ⟨rfl, rfl⟩ := h
  exact e
theorem a_all {α : Type} {L : List α} {p : α → Bool} : AL fAll [.d (.list (L.map fun a => .bool (p a)))] s (.d (.bool (L.all p))) := by
  have h := a_bools (s := s) (g := fun bs => bs.all id) (bs := L.map p) (ds := L.map fun a => .bool (p a)) (by rw [List.map_map]; rfl)
  rw [List.all_map] at h
  exact h
theorem a_any {α : Type} {L : List α} {p : α → Bool} : AL fAny [.d (.list (L.map fun a => .bool (p a)))] s (.d (.bool (L.any p))) := by
  have h := a_bools (s := s) (g := fun bs => bs.any id) (bs := L.map p) (ds := L.map fun a => .bool (p a)) (by rw [List.map_map]; rfl)
  rw [List.any_map] at h
  exact h
theorem a_max {bs : List Int} {ds : List D} (e : ds = bs.map .int) (hn : bs ≠ []) : AL fMax [.d (.list ds)] s (.d (.int (maxI bs))) := by
  obtain ⟨v, s', e, h⟩ := wp_max (st := s) (Q := fun v s' => v = .d (.int (maxI bs)) ∧ s' = s) e hn ⟨rfl, rfl⟩
  obtain ⟨rfl, rfl⟩ := h
  exact e
theorem a_sum {bs : List Int} {ds : List D} (e : ds = bs.map .int) : AL fSum [.d (.list ds)] s (.d (.int bs.sum)) := by
  obtain ⟨v, s', e, h⟩ := wp_sum (st := s) (Q := fun v s' => v = .d (.int bs.sum) ∧ s' = s) e ⟨rfl, rfl⟩
  obtain ⟨rfl, rfl⟩ := h
  exact e
theorem a_tuple {ds : List D} : AL fTuple [.d (.list ds)] s (.d (.tuple ds)) := rfl
theorem a_tupT {ds : List D} : AL fTuple [.d (.tuple ds)] s (.d (.tuple ds)) := rfl
theorem a_listL {ds : List D} : AO' fList [.d (.list ds)] s (.lst ds) := rfl
theorem a_listT {ds : List D} : AO' fList [.d (.tuple ds)] s (.lst ds) := rfl
theorem a_intB {b : Bool} : AL fInt [.d (.bool b)] s (.d (.int (if b then 1 else 0))) := rfl
theorem a_intI : AL fInt [.d (.int i)] s (.d (.int i)) := rfl
theorem a_slL {xs : List D} {a b : Option Int} : opSl (.d (.list xs)) a b s = .ok (.d (.list (cutL xs a b))) s := rfl
theorem a_slT {xs : List D} {a b : Option Int} : opSl (.d (.tuple xs)) a b s = .ok (.d (.tuple (cutL xs a b))) s := rfl
theorem a_isN {d : D} : A2 opIsN (.d d) (.d .none) s (.d (.bool (isNonD d))) := rfl
theorem a_notN {d : D} : A2 opNotN (.d d) (.d .none) s (.d (.bool (!isNonD d))) := rfl
end
theorem mem_kt (xs : List Str) {s : S} {x : Str} : A2 opIn (.d (.str x)) (.kt (xs.map .str)) s (.d (.bool (decide (x ∈ xs)))) := mem_tup xs x s
theorem nin_kt (xs : List Str) {s : S} {x : Str} : A2 opNotIn (.d (.str x)) (.kt (xs.map .str)) s (.d (.bool (!decide (x ∈ xs)))) := a_nin (mem_tup xs)
theorem a_sign {c : Nat} {z : Str} {s : S} : A2 opIn (.d (.str ⟨#[c]⟩)) (.d (.str z)) s (.d (.bool (decide (c ∈ z.cps.toList)))) := rfl
theorem a_nsign {c : Nat} {z : Str} {s : S} : A2 opNotIn (.d (.str ⟨#[c]⟩)) (.d (.str z)) s (.d (.bool (!decide (c ∈ z.cps.toList)))) := rfl
theorem eqv_nilT (ds : List D) : PyData.eqv (.tuple ds) (.tuple []) = decide (ds = []) := by
  cases ds <;> simp [PyData.eqv, PyData.eqvAll]
end RA
set_option Elab.async false
set_option linter.all false
set_option maxRecDepth 100000
set_option maxHeartbeats 400000
namespace RA
open PySem PySem.Spec PyProof.Rows L2
theorem tb_absF {b : Bool} {t : S → R Bool} {s : S} (h : b = true) : b = false → TB t s false := fun z => by rw [h] at z; cases z
theorem tb_absT {b : Bool} {t : S → R Bool} {s : S} (h : b = false) : b = true → TB t s false := fun z => by rw [h] at z; cases z
theorem pv_absF {b : Bool} {t : S → R Vl} {s : S} (h : b = true) : b = false → PV t s (.d (.bool false)) := fun z => by rw [h] at z; cases z
theorem pv_absT {b : Bool} {t : S → R Vl} {s : S} (h : b = false) : b = true → PV t s (.d (.bool false)) := fun z => by rw [h] at z; cases z
theorem a2_absT {b : Bool} {f : Vl → Vl → S → R Vl} {x y : Vl} {s : S} (h : b = false) : b = true → A2 f x y s (.d (.bool false)) := fun z => by rw [h] at z; cases z
/-! names, sets, formulas among all values, in plain Lean -/
def reservedS : List Str := [Str.ofString "all", Str.ofString "any", Str.ofString "demand", Str.ofString "gift", Str.ofString "key", Str.ofString "lock", Str.ofString "party", Str.ofString "sleep"]
def lettersS : Str := Str.ofString "abcdefghijklmnopqrstuvwxyz"
def isNameS (x : Str) : Bool := decide (1 ≤ (x.length : Int)) && decide ((x.length : Int) ≤ 8) && !decide (x ∈ reservedS) && x.cps.toList.all fun c => decide (c ∈ lettersS.cps.toList)
def isName : D → Bool
  | .str x => isNameS x
  | _ => false
def isInt (d : D) : Bool := isIntD d && !isBoolD d
mutual
/-- what a value is to be, to be looked at -/
def Pl : D → Prop
  | .str x => Sh (.str x) ∧ x.length ≤ sizeLine
  | .list ds => ds.length ≤ 1000 ∧ Pls ds
  | .tuple ds => ds.length ≤ 1000 ∧ Pls ds
  | .dict kvs => kvs = []
  | _ => True
def Pls : List D → Prop
  | [] => True
  | d :: ds => Pl d ∧ Pls ds
end
theorem pls_mem : ∀ {ds : List D}, Pls ds ↔ ∀ d ∈ ds, Pl d
  | [] => ⟨fun _ d h => (by cases h), fun _ => trivial⟩
  | d :: ds => by
    show Pl d ∧ Pls ds ↔ _
    rw [pls_mem (ds := ds)]
    simp
theorem pl_noT {d : D} (h : Pl d) : noT d = true := by
  cases d with
  | dict kvs => obtain rfl : kvs = [] := h; rfl
  | _ => rfl
theorem pl_tup {ds : List D} (h : Pl (.tuple ds)) : ds.length ≤ 1000 ∧ ∀ d ∈ ds, Pl d := ⟨h.1, pls_mem.mp h.2⟩
theorem pl_str {x : Str} (h : Pl (.str x)) : Sh (.str x) ∧ x.length ≤ sizeLine := h
def giftS : Str := Str.ofString "gift"
def joinsS : List Str := [Str.ofString "all", Str.ofString "any"]
def tupAnd (f : D → Bool) : D → Bool
  | .tuple ps => decide (ps.length ≤ 8) && ps.all f
  | _ => false
def shal : Nat → D → Bool
  | 0, _ => false
  | n + 1, .tuple [.str w, p] => if w = giftS then isName p else if w ∈ joinsS then tupAnd (shal n) p else false
  | _, _ => false
theorem shal_n {n : Nat} {w : Str} {p : D} : shal (n + 1) (.tuple [.str w, p]) = if w = giftS then isName p else if w ∈ joinsS then tupAnd (shal n) p else false := rfl
theorem tupAnd_t {f : D → Bool} {ps : List D} : tupAnd f (.tuple ps) = (decide (ps.length ≤ 8) && ps.all f) := rfl
def ltStr (x y : Str) : Bool := decide (x.cps.toList < y.cps.toList)
def ascS (xs : List Str) : Bool := (xs.zip xs.tail).all fun p => ltStr p.1 p.2
def strOf : D → Str
  | .str x => x
  | _ => giftS
def isSet : D → Bool
  | .tuple ds => ds.all isName && ascS (ds.map strOf)
  | _ => false
theorem sh_sign {x : Str} (h : Sh (.str x)) {c : Nat} (hc : c ∈ x.cps.toList) : Sh (.str ⟨#[c]⟩) := by
  have h1 : (PyData.str x).canLay0 = true := h.1
  rw [PyData.canLay0] at h1
  unfold PyData.strOk at h1
  rw [← Array.all_toList, List.all_eq_true] at h1
  refine ⟨?_, by simp [PyData.depth]⟩
  rw [PyData.canLay0]
  unfold PyData.strOk
  rw [← Array.all_toList]
  simpa using h1 c hc
theorem fil_all {α : Type} (L : List α) (p : α → Bool) (g : α → D) : decide ((L.filter fun a => !p a).map g = []) = L.all p := by
  induction L with
  | nil => rfl
  | cons a L ih =>
    cases h : p a
    · simp [h]
    · simp only [List.filter_cons, h, Bool.not_true, List.all_cons, Bool.true_and]
      exact ih
theorem shal_1 {n : Nat} {a : D} : shal (n + 1) (.tuple [a]) = false := by cases a <;> rfl
theorem shal_3 {n : Nat} {a b c : D} {r : List D} : shal (n + 1) (.tuple (a :: b :: c :: r)) = false := by cases a <;> rfl
theorem names_strs : ∀ {ds : List D}, ds.all isName = true → ∃ xs : List Str, ds = xs.map .str
  | [], _ => ⟨[], rfl⟩
  | d :: ds, h => by
    simp only [List.all_cons, Bool.and_eq_true] at h
    obtain ⟨xs, rfl⟩ := names_strs h.2
    cases d with
    | str x => exact ⟨x :: xs, rfl⟩
    | _ => cases h.1
theorem strOf_map : ∀ xs : List Str, (xs.map PyData.str).map strOf = xs
  | [] => rfl
  | x :: xs => by rw [List.map_cons, List.map_cons, strOf_map xs]; rfl
theorem cut1 {α : Type} (xs : List α) : cutL xs (some 1) none = xs.tail := by
  cases xs with
  | nil => rfl
  | cons x r =>
    have e : HT.sIx (x :: r).length 0 (some 1) = 1 := by
      have := HT.sIx_nat (x :: r).length 0 1
      rw [List.length_cons] at this ⊢
      rw [show (some 1 : Option Int) = some ((1 : Nat) : Int) from rfl, this]
      omega
    unfold cutL
    rw [e]
    show ((x :: r).drop 1).take ((x :: r).length - 1) = r
    simp
theorem ltStr_eq (x y : Str) : ltStr x y = ltS x y := by
  unfold ltStr ltS
  exact (ltCps_eq _ _).symm
theorem ascS_pw : ∀ xs : List Str, ascS xs = true ↔ xs.Pairwise (fun a b => ltS a b = true)
  | [] => by simp [ascS]
  | [x] => by simp [ascS]
  | x :: y :: r => by
    have ih := ascS_pw (y :: r)
    have e : ascS (x :: y :: r) = (ltStr x y && ascS (y :: r)) := rfl
    rw [e, Bool.and_eq_true, ih, ltStr_eq, List.pairwise_cons (l := y :: r)]
    constructor
    · rintro ⟨h, g⟩
      refine ⟨fun b hb => ?_, g⟩
      rcases List.mem_cons.mp hb with rfl | hb
      · exact h
      · exact ordS.tr _ _ _ h ((List.pairwise_cons.mp g).1 b hb)
    · rintro ⟨h, g⟩
      exact ⟨h y (List.mem_cons_self ..), g⟩
theorem asc_set (xs : List Str) : decide (xs = setL ltS xs) = ascS xs := by
  cases h : ascS xs with
  | true =>
    have h := (ascS_pw xs).mp h
    refine decide_eq_true (setL_eq ordS (h.imp fun {a b} h => ordS.asym h) (h.imp fun {a b} h e => ?_) fun x => Iff.rfl)
    rw [e, ordS.irr] at h
    cases h
  | false =>
    refine decide_eq_false fun e => ?_
    have h1 : Asc ltS xs := by rw [e]; exact setL_asc ordS _
    have h2 : xs.Nodup := by rw [e]; exact setL_nodup _
    have h3 : xs.Pairwise (fun a b => ltS a b = true) := (List.Pairwise.and h1 h2).imp fun {a b} ⟨k1, k2⟩ => by
      cases q : ltS a b with
      | true => rfl
      | false => exact absurd (ordS.tot _ _ q k1) k2
    rw [(ascS_pw xs).mpr h3] at h
    cases h
theorem eqv_strs : ∀ xs ys : List Str, PyData.eqv (.list (xs.map .str)) (.list (ys.map .str)) = decide (xs = ys)
  | [], [] => rfl
  | [], y :: ys => rfl
  | x :: xs, [] => rfl
  | x :: xs, y :: ys => by
    have ih := eqv_strs xs ys
    simp only [PyData.eqv] at ih
    simp only [List.map_cons, PyData.eqv, PyData.eqvAll, ih, List.cons.injEq]
    by_cases a : x = y <;> by_cases b : xs = ys <;> simp [a, b]
theorem a_setT {xs : List Str} {s : S} (h : xs.length + 1 < scanBound) : AO' fSortedSet [.d (.tuple (xs.map .str))] s (.lst ((setL ltS xs).map .str)) := by
  show (match strsD (xs.map PyData.str) with
    | some xs => if xs.length + 1 < scanBound then R.ok (Ob.lst ((setL ltS xs).map .str)) s else .bad
    | none => .bad) = _
  rw [strsD_map]
  exact if_pos h
theorem a_setL {xs : List Str} {s : S} (h : xs.length + 1 < scanBound) : AO' fSortedSet [.d (.list (xs.map .str))] s (.lst ((setL ltS xs).map .str)) := by
  show (match strsD (xs.map PyData.str) with
    | some xs => if xs.length + 1 < scanBound then R.ok (Ob.lst ((setL ltS xs).map .str)) s else .bad
    | none => .bad) = _
  rw [strsD_map]
  exact if_pos h
def pairS (p : Str × Str) : D := .tuple [.str p.1, .str p.2]
theorem pairD_strs : ∀ xs ys : List Str, pairD (xs.map .str) (ys.map .str) = (xs.zip ys).map pairS
  | [], ys => by simp [pairD]
  | x :: xs, [] => by simp [pairD]
  | x :: xs, y :: ys => by
    have ih := pairD_strs xs ys
    unfold pairD at ih ⊢
    simp [ih, pairS]
end RA
set_option Elab.async false
set_option linter.all false
set_option maxRecDepth 100000
set_option maxHeartbeats 400000
namespace RA
open PySem PySem.Spec PyProof.Rows L2
/-! depth, size, names of a formula, in plain Lean -/
mutual
def dpI : Fm → Int
  | .gift _ => 1
  | .node _ ps => 1 + maxI (0 :: dpIs ps)
def dpIs : List Fm → List Int
  | [] => []
  | f :: fs => dpI f :: dpIs fs
end
mutual
def szI : Fm → Int
  | .gift _ => 1
  | .node _ ps => 1 + (szIs ps).sum
def szIs : List Fm → List Int
  | [] => []
  | f :: fs => szI f :: szIs fs
end
mutual
def nm : Fm → List Str
  | .gift x => [x]
  | .node _ ps => nms ps
def nms : List Fm → List Str
  | [] => []
  | f :: fs => nm f ++ nms fs
end
theorem dpIs_map : ∀ ps : List Fm, dpIs ps = ps.map dpI
  | [] => rfl
  | f :: ps => by rw [dpIs, dpIs_map ps, List.map_cons]
theorem szIs_map : ∀ ps : List Fm, szIs ps = ps.map szI
  | [] => rfl
  | f :: ps => by rw [szIs, szIs_map ps, List.map_cons]
theorem nms_app : ∀ a b : List Fm, nms (a ++ b) = nms a ++ nms b
  | [], b => rfl
  | f :: a, b => by rw [List.cons_append, nms, nms, nms_app a b, List.append_assoc]
theorem nms_one (f : Fm) : nms [f] = nm f := by rw [nms, nms, List.append_nil]
mutual
theorem nm_len : ∀ f : Fm, 3 * (nm f).length ≤ sz f
  | .gift x => Nat.le_refl _
  | .node _ ps => by
    have := nms_len ps
    simp only [nm, sz]; omega
theorem nms_len : ∀ ps : List Fm, 3 * (nms ps).length ≤ szs ps
  | [] => Nat.le_refl _
  | f :: ps => by
    have := nms_len ps
    have := nm_len f
    simp only [nms, szs, List.length_append]; omega
end
mutual
theorem nm_on {q : Str → Prop} : ∀ f : Fm, On q f → ∀ x ∈ nm f, q x
  | .gift x, h, y, hy => by rw [nm, List.mem_singleton] at hy; rw [hy]; exact h
  | .node _ ps, h, y, hy => nms_on ps h y hy
theorem nms_on {q : Str → Prop} : ∀ ps : List Fm, Ons q ps → ∀ x ∈ nms ps, q x
  | [], _, y, hy => by cases hy
  | f :: ps, h, y, hy => by
    rw [nms] at hy
    rcases List.mem_append.mp hy with hy | hy
    · exact nm_on f h.1 y hy
    · exact nms_on ps h.2 y hy
end
theorem szs_mem : ∀ {ps : List Fm} {f : Fm}, f ∈ ps → sz f ≤ szs ps
  | f :: ps, g, h => by
    rcases List.mem_cons.mp h with rfl | h
    · simp only [szs]; omega
    · have := szs_mem h
      simp only [szs]; omega
theorem datas_s1 {a : D} {ds : List D} : datas (.d a :: (ds.map .d ++ [])) = some (a :: ds) := by
  rw [List.append_nil, datas_cons, datas_map]; rfl
/-- a dict that says true of each of some names -/
def truD (xs : List Str) : List (Key × D) := xs.map fun x => (.inr x, .bool true)
def addS (xs : List Str) (x : Str) : List Str := if x ∈ xs then xs else xs ++ [x]
theorem put_tru (xs : List Str) (x : Str) : putD (truD xs) (.inr x) (.bool true) = truD (addS xs x) := by
  have e : ((truD xs).any fun kv => decide (kv.1 = (.inr x : Key))) = decide (x ∈ xs) := by
    induction xs with
    | nil => rfl
    | cons y xs ih =>
      unfold truD at ih ⊢
      rw [List.map_cons, List.any_cons, ih]
      by_cases h : y = x
      · simp [h]
      · have h2 : ¬ x = y := fun e => h e.symm
        have h3 : decide ((Sum.inr y : Key) = Sum.inr x) = false := decide_eq_false fun e => h (Sum.inr.inj e)
        simp [h2]
        exact fun e => absurd e h
  unfold putD addS
  rw [e]
  by_cases h : x ∈ xs
  · rw [decide_eq_true h, if_pos rfl, if_pos h]
    unfold truD
    rw [List.map_map]
    refine List.map_congr_left fun y _ => ?_
    show (if (Sum.inr y : Key) = Sum.inr x then _ else _) = _
    split <;> rfl
  · rw [decide_eq_false h, if_neg Bool.false_ne_true, if_neg h]
    unfold truD
    rw [List.map_append]
    rfl
theorem addS_mem {xs : List Str} {x y : Str} : y ∈ addS xs x ↔ y ∈ xs ∨ y = x := by
  unfold addS
  split
  · rename_i h
    exact ⟨.inl, fun z => z.elim id fun e => e ▸ h⟩
  · simp
theorem addS_nodup {xs : List Str} {x : Str} (h : xs.Nodup) : (addS xs x).Nodup := by
  unfold addS
  split
  · exact h
  · rename_i g
    refine List.nodup_append.mpr ⟨h, by simp, fun a ha b hb e => ?_⟩
    rw [List.mem_singleton] at hb
    exact g (hb ▸ e ▸ ha)
theorem addS_len {xs : List Str} {x : Str} : (addS xs x).length ≤ xs.length + 1 := by
  unfold addS
  split
  · omega
  · simp
theorem wp_sortD {st : S} {Q : Ob → S → Prop} {x : Vl} {xs : List Str} (e : dicOf x st = some (.k (dkD (truD xs)))) (h : xs.length < 64) (q : Q (.lst ((sortL ltS xs).map .str)) st) : wp (fSortedD [x] st) Q := by
  have e2 : strsD ((dkD (truD xs)).map Prod.fst) = some xs := by
    have : (dkD (truD xs)).map Prod.fst = xs.map .str := by
      unfold dkD truD
      rw [List.map_map, List.map_map]
      rfl
    rw [this, strsD_map]
  unfold fSortedD
  dsimp only
  rw [e]
  dsimp only
  rw [e2]
  dsimp only
  rw [if_pos h]
  exact wp_ok q
theorem sort_set {xs ys : List Str} (h : xs.Nodup) (m : ∀ x, x ∈ xs ↔ x ∈ ys) : sortL ltS xs = setL ltS ys :=
  setL_eq ordS (sortL_asc ordS xs) ((sortL_perm xs).nodup_iff.mpr h) fun x => (sortL_perm xs).mem_iff.trans (m x)
theorem set_set {xs ys : List Str} (m : ∀ x, x ∈ xs ↔ x ∈ ys) : setL ltS xs = setL ltS ys :=
  setL_eq ordS (setL_asc ordS xs) (setL_nodup xs) fun x => setL_mem.trans (m x)
theorem set_one (x : Str) : setL ltS [x] = [x] := (setL_eq ordS (by simp [Asc]) (by simp) fun y => Iff.rfl).symm
theorem fold_len : ∀ (ps : List Fm) (b : List Str), (ps.foldl (fun acc p => acc ++ setL ltS (nm p)) b).length ≤ b.length + szs ps
  | [], b => by simp [szs]
  | p :: ps, b => by
    rw [List.foldl_cons]
    refine Nat.le_trans (fold_len ps _) ?_
    have h1 := setL_len (nm p)
    have h2 := nm_len p
    rw [List.length_append, szs]
    omega
theorem fold_mem (x : Str) : ∀ (ps : List Fm) (b : List Str), x ∈ ps.foldl (fun acc p => acc ++ setL ltS (nm p)) b ↔ x ∈ b ∨ x ∈ nms ps
  | [], b => by simp [nms]
  | p :: ps, b => by
    rw [List.foldl_cons, fold_mem x ps, List.mem_append, setL_mem, nms, List.mem_append, or_assoc]
theorem last_ex {α : Type} {l : List α} (h : l ≠ []) : ∃ L b, l = L ++ [b] := ⟨l.dropLast, l.getLast h, (List.dropLast_concat_getLast h).symm⟩
theorem if_ff' {c : Bool} {p q : Prop} (e : c = false) (h : q) : if c = true then p else q := by rw [e]; exact h
theorem if_tt' {c : Bool} {p q : Prop} (e : c = true) (h : p) : if c = true then p else q := by rw [e]; exact h
mutual
/-- data without dicts, not too wide -/
def Pq : D → Prop
  | .str x => Sh (.str x) ∧ x.length ≤ sizeLine
  | .list ds => ds.length ≤ 300 ∧ Pqs ds
  | .tuple ds => ds.length ≤ 300 ∧ Pqs ds
  | .dict _ => False
  | _ => True
def Pqs : List D → Prop
  | [] => True
  | d :: ds => Pq d ∧ Pqs ds
end
theorem pqs_mem : ∀ {ds : List D}, Pqs ds ↔ ∀ d ∈ ds, Pq d
  | [] => ⟨fun _ d h => (by cases h), fun _ => trivial⟩
  | d :: ds => by
    show Pq d ∧ Pqs ds ↔ _
    rw [pqs_mem (ds := ds)]
    simp
mutual
theorem pq_pl : ∀ d : D, Pq d → Pl d
  | .none, _ => trivial
  | .bool _, _ => trivial
  | .int _, _ => trivial
  | .str _, h => h
  | .list ds, h => ⟨Nat.le_trans h.1 (by decide), pqs_pls ds h.2⟩
  | .tuple ds, h => ⟨Nat.le_trans h.1 (by decide), pqs_pls ds h.2⟩
  | .dict _, h => h.elim
theorem pqs_pls : ∀ ds : List D, Pqs ds → Pls ds
  | [], _ => trivial
  | d :: ds, h => ⟨pq_pl d h.1, pqs_pls ds h.2⟩
end
mutual
theorem pq_lay : ∀ d : D, Pq d → d.canLay0 = true
  | .none, _ => by rw [PyData.canLay0]
  | .bool _, _ => by rw [PyData.canLay0]
  | .int _, _ => by rw [PyData.canLay0]
  | .str _, h => h.1.1
  | .list ds, h => by rw [PyData.canLay0]; exact pqs_lay ds h.2
  | .tuple ds, h => by rw [PyData.canLay0]; exact pqs_lay ds h.2
  | .dict _, h => h.elim
theorem pqs_lay : ∀ ds : List D, Pqs ds → PyData.canLayAll0 ds = true
  | [], _ => by rw [PyData.canLayAll0]
  | d :: ds, h => by rw [PyData.canLayAll0, pq_lay d h.1, pqs_lay ds h.2]; rfl
end
theorem depth_mem : ∀ {ds : List D} {d : D}, d ∈ ds → d.depth ≤ PyData.depthAll ds
  | d :: ds, e, h => by
    rw [PyData.depthAll]
    rcases List.mem_cons.mp h with rfl | h
    · omega
    · have := depth_mem h
      omega
end RA
set_option Elab.async false
set_option linter.all false
set_option maxRecDepth 100000
set_option maxHeartbeats 400000
namespace RA
open PySem PySem.Spec PyProof.Rows L2
/-! sorted(t), t a tuple of texts; what sorted answers of either -/
section
variable {P : Program} {w : World} {A : Around} {E : Value → Shared → Prop} {s : Shared}
theorem collect_tup {l : Addr} {vs : List Value} {Q : List Value → Shared → Prop} (hl : s.heap.IsTuple l vs.toArray)
    (h : Q vs { s with heap := (s.heap.push (seqObj "list" #[] 0)).update s.heap.objs.size (Obj.mapSeq (· ++ vs.toArray)) }) (hsz : vs.length ≤ sizeLine) :
    wpAny (model P w) A (collect (.ref l)) Q E s := by
  obtain ⟨o, ho, hc, n, hd⟩ := id hl
  unfold collect
  refine wpAny_bind (wpAny_runValue (codeAny_builtin entry_proto_collect' ?_))
  show wpAny _ _ (do again (.builtin "list.__iadd__" ⟨[← newList [], .ref l], []⟩)) _ _ s
  refine wpAny_bind (wpAny_newList (wpAny_pure ⟨Code.quiet_builtin _ (by decide +kernel), codeAny_builtin entry_list_iadd' ?_⟩))
  show wpAny _ _ (Builtin.List.listExtendWith (.ref s.heap.objs.size) (.ref l) (.ref s.heap.objs.size)) _ _ { s with heap := s.heap.push (seqObj "list" #[] 0) }
  unfold Builtin.List.listExtendWith
  have ho' : (s.heap.push (seqObj "list" #[] 0)).get? l = some o := Heap.get?_push_of_some _ ho
  refine wpAny_bind (wpAny_typeOf (T := "tuple") ⟨o, ho', hc⟩ ?_)
  have ht : (Value.type "tuple" == Value.type "tuple") = true := by rfl
  rw [if_pos (by rw [ht]; simp)]
  refine wpAny_bind (listItems_at ho' hd ?_)
  refine wpAny_bind (listItems_at (xs := #[]) (n := 0) (Heap.get?_push_size _ rfl) rfl ?_)
  rw [if_neg (by simp)]
  refine wpAny_bind (listUpdate_at (xs := #[]) (n := 0) (Heap.get?_push_size _ rfl) rfl ?_ (Nat.zero_le _) (by show (#[] ++ vs.toArray).size ≤ sizeLine + 1; simp only [Array.size_append, List.size_toArray, List.length_nil]; omega))
  refine wpAny_pure ?_
  show wpAny (model P w) A (do
      let o ← load s.heap.objs.size
      match o.data with
      | .seq xs _ => pure xs.toList
      | _ => unsupported "internal:collect") Q E { s with heap := (s.heap.push (seqObj "list" #[] 0)).update s.heap.objs.size (Obj.mapSeq (· ++ vs.toArray)) }
  refine wpAny_bind (wpAny_load (get?_update_seq (Heap.get?_push_size _ rfl) _) ?_)
  show wpAny _ _ (pure ((#[] : Array Value) ++ vs.toArray).toList) Q E _
  rw [show ((#[] : Array Value) ++ vs.toArray).toList = vs by simp]
  exact wpAny_pure h
theorem sorted_tupS {a : Addr} {vs : List Value} {ss : List Str} {Q : Value → Shared → Prop} (hl : s.heap.IsTuple a vs.toArray) (hS : StrsAre vs ss) (hL : vs.length ≤ sizeLine)
    (h : ∀ (out : Array Value) (ss' : List Str), StrsAre out.toList ss' → ss'.Perm ss → sortedS ss' = true → Q (.ref (s.heap.objs.size + 1)) { s with heap := sortedAll s.heap vs out }) :
    wpAny (model P w) A (call (.builtin "sorted") [.ref a]) Q E s := by
  refine Calls.call_function_entry kind_sorted plain_sorted entry_sorted (args_sorted1 _) ?_
  unfold Builtin.«sorted»
  refine wpAny_bind (m := checkCount "sorted" 1 1 _) (wpAny_pure ?_)
  refine wpAny_bind (collect_tup hl ?_ hL)
  refine wpAny_bind (wpAny_newList ?_)
  have hsz : ((s.heap.push (seqObj "list" #[] 0)).update s.heap.objs.size (Obj.mapSeq (· ++ vs.toArray))).objs.size = s.heap.objs.size + 1 := by
    rw [Heap.size_update, size_push']
  have hoL : (((s.heap.push (seqObj "list" #[] 0)).update s.heap.objs.size (Obj.mapSeq (· ++ vs.toArray))).push (seqObj "list" vs.toArray 0)).get? (s.heap.objs.size + 1) = some (seqObj "list" vs.toArray 0) := by
    rw [← hsz]; exact Heap.get?_push_size _ rfl
  show wpAny _ _ _ _ _ { s with heap := ((s.heap.push (seqObj "list" #[] 0)).update s.heap.objs.size (Obj.mapSeq (· ++ vs.toArray))).push (seqObj "list" vs.toArray 0) }
  rw [hsz]
  refine wpAny_bind (wpAny_holding (wpAny_call_entry slot_list_sort ⟨_, hoL, rfl⟩ entry_list_sort (list_sort_treeKAny strKind_oneLt hoL hS.keysOf (fun v1 v2 rest e => keyKind_strs (by rw [← e]; exact hS)) hL fun st' hp hs => ⟨_, rfl, ?_⟩) (args_list_sort _)))
  obtain ⟨ss', h1, h2, h3⟩ := sorted_out_str hS hp hs
  exact wpAny_pure ⟨_, rfl, h _ ss' h1 h2 h3⟩
end
section
variable {X : Cx}
def rSortedTupS (K : PySem.W.Frag) : List V → Hp → VK → Prop := fun vs H Q => ∃ (a : Addr) (xs : List Str), vs = [V.ref a] ∧ SqT K H a (xs.map V.str) ∧ ∀ p, H p = none → Q (.ref p) (upd H p (.lst ((sortL ltS xs).map V.str)))
theorem cr_sortedTupS : CallR X (.builtin "sorted") (rSortedTupS X.K) := by
  intro pins s σ H vs us Q I r h
  obtain ⟨a, xs, rfl, hs, q⟩ := h
  rw [Vals.ref1 r]
  obtain ⟨its, rv, pl, hz⟩ := I.tuple hs
  refine sorted_tupS (show s.heap.IsTuple a its.toArray from pl) rv.strs (by rw [← rv.length]; exact hz) fun out ys h1 h2 h3 => ?_
  obtain ⟨ep, he'⟩ := PyProof.Rows.sortedAll_at s.heap its out
  obtain rfl := asc_sortL ordS (sorted_asc h3) h2
  have hlen : ((sortL ltS xs).map V.str).length ≤ sizeLine := by
    rw [List.length_map, h2.length_eq]
    simpa using hz
  exact ⟨.ref _, upd H (s.heap.objs.size + 1) (.lst ((sortL ltS xs).map V.str)), I.laid (t' := s.toks) (fun _ _ => PyProof.Rows.sortedAll_old) (Nat.le_succ _) ⟨hlen, out.toList, ep, vals_of_strs h1, he'⟩, rfl, q _ (I.hok.fresh (Nat.le_succ _))⟩
end
theorem CallR.or {X : Cx} {f : Value} {r1 r2 : List V → Hp → VK → Prop} (h1 : CallR X f r1) (h2 : CallR X f r2) : CallR X f (fun vs H Q => r1 vs H Q ∨ r2 vs H Q) :=
  fun pins s σ H vs us Q I r h => h.elim (h1 pins s σ H vs us Q I r) (h2 pins s σ H vs us Q I r)
/-- two mirrors of one call joined -/
theorem af_or {X : Cx} {W : WX} {e : Expr} {ms : S → R (List Vl)} {f f1 f2 : List Vl → S → R Ob} (h1 : AF X W e (mCallF f1 ms)) (h2 : AF X W e (mCallF f2 ms)) (hf : ∀ ws s, f ws s = f1 ws s ∨ f ws s = f2 ws s) : AF X W e (mCallF f ms) :=
  ⟨fun pins s σ H Q I ⟨A, st, sr, p⟩ => by
    unfold mCallF at p
    cases em : ms st with
    | bad => exact h1.run pins s σ H Q I ⟨A, st, sr, by unfold mCallF; rw [em] at p ⊢; exact p⟩
    | exc x s1 => exact h1.run pins s σ H Q I ⟨A, st, sr, by unfold mCallF; rw [em] at p ⊢; exact p⟩
    | ok x s1 =>
      rw [em, R.bind_ok] at p
      rcases hf x s1 with q | q
      · exact h1.run pins s σ H Q I ⟨A, st, sr, by unfold mCallF; rw [em, R.bind_ok, ← q]; exact p⟩
      · exact h2.run pins s σ H Q I ⟨A, st, sr, by unfold mCallF; rw [em, R.bind_ok, ← q]; exact p⟩⟩
def fSortedTup (ws : List Vl) (st : S) : R Ob := match ws with
  | [x] => (match (tupOf x).bind strsD with
    | some xs => .ok (.lst ((sortL ltS xs).map .str)) st
    | none => .bad)
  | _ => .bad
section
variable {X : Cx} {W : WX} {k : Nat} {e : Expr} {ms : S → R (List Vl)} {p pos : Pos}
theorem f_sortedTup (hm : X.mg "sorted" = none) (ha : AA X W [e] ms) (hg : Gl X "sorted" := by rfl) (he : starEach [e] X.env = (false, eval e X.env) :: starEach [] X.env := by rfl) :
    AF X W (.Call (.Name "sorted" p) [e] [] pos) (mCallF fSortedTup ms) :=
  PE.imp (pe_callB cr_sortedTupS hg hm (by decide +kernel) ha (by decide) (by decide) he rfl) fun σ H Q ⟨A, st, sr, q⟩ => ⟨A, st, sr, q.bind.imp fun ws s1 H1 e1 sr1 p1 vs rv => by
    unfold fSortedTup at p1
    split at p1
    · obtain ⟨v, rfl, rx⟩ := rws1 rv
      split at p1
      · rename_i xs ex
        obtain ⟨es, e2, e3⟩ := Option.bind_eq_some_iff.mp ex
        obtain ⟨a, us, rfl, h2, r2⟩ := tupOf_at rx e2
        have sz := sq_size sr1 (.inr h2)
        obtain rfl := strsD_rv r2 e3
        refine ⟨a, xs, rfl, h2, fun p hp => ?_⟩
        have hz : hsz (.lst ((sortL ltS xs).map V.str)) ≤ sizeLine := by
          show ((sortL ltS xs).map V.str).length ≤ _
          rw [List.length_map, (sortL_perm xs).length_eq]; simpa using sz
        exact p1 _ (stp_new hp sr1.dj) (sr1.newp (o := .lst ((sortL ltS xs).map V.str)) hp hz) p (e1.back hp) (sr1.new (o := .lst ((sortL ltS xs).map V.str)) hp hz) (ro_newlst hp (rvs_strs _))
      · exact p1.elim
    · exact p1.elim⟩
def fSortedA (ws : List Vl) (st : S) : R Ob := match ws with
  | [x] => (match tupOf x with
    | some _ => fSortedTup [x] st
    | none => fSorted [x] st)
  | _ => .bad
theorem f_sortedA (hr : Room k X.A) (hm : X.mg "sorted" = none) (ha : AA X W [e] ms) (hg : Gl X "sorted" := by rfl) (he : starEach [e] X.env = (false, eval e X.env) :: starEach [] X.env := by rfl) :
    AF X W (.Call (.Name "sorted" p) [e] [] pos) (mCallF fSortedA ms) :=
  af_or (f_sorted hr hm ha hg he) (f_sortedTup hm ha hg he) fun ws s => by
    unfold fSortedA
    split
    · split
      · exact .inr rfl
      · exact .inl rfl
    · rename_i h
      refine .inr ?_
      unfold fSortedTup
      split
      · exact absurd rfl (h _)
      · rfl
end
theorem a_sortT {xs : List Str} {s : S} : AO' fSortedA [.d (.tuple (xs.map .str))] s (.lst ((sortL ltS xs).map .str)) := by
  show (match strsD (xs.map PyData.str) with | some xs => R.ok (Ob.lst ((sortL ltS xs).map .str)) s | none => .bad) = _
  rw [strsD_map]
theorem a_sortL {xs : List Str} {s : S} : AO' fSortedA [.d (.list (xs.map .str))] s (.lst ((sortL ltS xs).map .str)) := by
  show (match sortD (xs.map PyData.str) with | some ds => R.ok (Ob.lst ds) s | none => .bad) = _
  unfold sortD
  rw [strsD_map]
theorem a_sortR {rs : List (List Str)} (h : rs ≠ []) {s : S} : AO' fSortedA [.d (.list (rs.map rowD))] s (.lst ((sortL (ltX ltS) rs).map rowD)) := by
  obtain ⟨v, s', e, h⟩ := wp_sortR (st := s) (Q := fun v s' => v = .lst ((sortL (ltX ltS) rs).map rowD) ∧ s' = s) h ⟨rfl, rfl⟩
  obtain ⟨rfl, rfl⟩ := h
  exact e
end RA
set_option Elab.async false
set_option linter.all false
set_option maxRecDepth 100000
set_option maxHeartbeats 400000
namespace RA
open PySem PySem.Spec PyProof.Rows L2
/-! t * k, t a tuple; two mirrors of one operator joined -/
def opRepT (x y : Vl) (st : S) : R Vl := match x, y with
  | .d (.tuple xs), .d (.int k) => if xs ≠ [] ∧ 2 ≤ k ∧ k ≤ 1000 ∧ xs.length ≤ 1000 ∧ xs.length * k.toNat ≤ sizeLine then .ok (.d (.tuple (List.replicate k.toNat xs).flatten)) st else .bad
  | _, _ => .bad
theorem so_repT {K : PySem.W.Frag} {mg : Str → Option Value} {W : WX} : SOp K mg W (rRepT K) opRepT := fun A H σ st v v2 x y Q sr r1 r2 p => by
  unfold opRepT at p
  split at p
  · rename_i xs k
    cases r2
    split at p
    · rename_i h
      obtain ⟨a, us, rfl, ha, ra⟩ := tup_at (show RV K A H v (.tuple xs) from r1)
      have hl := ra.length
      have hz : hsz (.tup (List.replicate k.toNat us).flatten) ≤ sizeLine := by
        show (List.replicate k.toNat us).flatten.length ≤ _
        rw [List.length_flatten, List.map_replicate, List.sum_replicate_nat, Nat.mul_comm, hl]
        exact h.2.2.2.2
      refine ⟨a, k, us, rfl, rfl, ha, fun e => ?_, h.2.1, h.2.2.1, by rw [hl]; exact h.2.2.2.1, fun q nq => p _ (stp_new nq sr.dj) (sr.newp (o := .tup _) nq hz) _ (rv_newtup sr nq (rvs_rep ra _))⟩
      rw [e] at hl
      exact h.1 (List.length_eq_zero_iff.mp hl.symm)
    · exact p.elim
  · exact p.elim
theorem ae_op2 {X : Cx} {W : WX} {e : Expr} {ma mb : S → R Vl} {f f1 f2 : Vl → Vl → S → R Vl} (h1 : AE X W e (m2 f1 ma mb)) (h2 : AE X W e (m2 f2 ma mb)) (hf : ∀ x y s, f x y s = f1 x y s ∨ f x y s = f2 x y s) : AE X W e (m2 f ma mb) :=
  ⟨fun pins s σ H Q I ⟨A, st, sr, p⟩ => by
    unfold m2 at p
    cases em : ma st with
    | bad => exact h1.run pins s σ H Q I ⟨A, st, sr, by unfold m2; rw [em] at p ⊢; exact p⟩
    | exc x s1 => exact h1.run pins s σ H Q I ⟨A, st, sr, by unfold m2; rw [em] at p ⊢; exact p⟩
    | ok x s1 =>
      rw [em, R.bind_ok] at p
      cases em2 : mb s1 with
      | bad => exact h1.run pins s σ H Q I ⟨A, st, sr, by unfold m2; rw [em, R.bind_ok]; rw [em2] at p ⊢; exact p⟩
      | exc y s2 => exact h1.run pins s σ H Q I ⟨A, st, sr, by unfold m2; rw [em, R.bind_ok]; rw [em2] at p ⊢; exact p⟩
      | ok y s2 =>
        rw [em2, R.bind_ok] at p
        rcases hf x y s2 with q | q
        · exact h1.run pins s σ H Q I ⟨A, st, sr, by unfold m2; rw [em, R.bind_ok, em2, R.bind_ok, ← q]; exact p⟩
        · exact h2.run pins s σ H Q I ⟨A, st, sr, by unfold m2; rw [em, R.bind_ok, em2, R.bind_ok, ← q]; exact p⟩⟩
def opRepA (x y : Vl) (st : S) : R Vl := match x with
  | .d (.tuple xs) => opRepT (.d (.tuple xs)) y st
  | x => opRep x y st
theorem x_repA {X : Cx} {W : WX} {a b : Expr} {ma mb : S → R Vl} {pos : Pos} (ha : AE X W a ma) (hb : AE X W b mb) : AE X W (.BinOp a .Mult b pos) (m2 opRepA ma mb) :=
  ae_op2 (x_rep ha hb) (ae_op op_repT so_repT ha hb) fun x y s => by
    unfold opRepA
    split
    · exact .inr rfl
    · exact .inl rfl
theorem a_repT {xs : List D} {k : Int} {s : S} (h : xs ≠ [] ∧ 2 ≤ k ∧ k ≤ 1000 ∧ xs.length ≤ 1000 ∧ xs.length * k.toNat ≤ sizeLine) : A2 opRepA (.d (.tuple xs)) (.d (.int k)) s (.d (.tuple (List.replicate k.toNat xs).flatten)) := if_pos h
theorem a_repL {xs : List D} {k : Int} {s : S} (h : -(2 ^ 62) ≤ k ∧ k < 2 ^ 62 ∧ xs.length * k.toNat ≤ sizeLine) : A2 opRepA (.d (.list xs)) (.d (.int k)) s (.d (.list (List.replicate k.toNat xs).flatten)) := if_pos h
end RA
namespace RA
open PySem PySem.Spec PyProof.Rows L2
def within : D → Int → Int → Bool
  | .int i, lo, hi => decide (lo ≤ i) && decide (i ≤ hi)
  | _, _, _ => false
mutual
theorem pq_enc : ∀ f : Fm, On (fun x => Pq (.str x)) f → sz f ≤ 300 → Pq (enc f)
  | .gift x, h, _ => ⟨(by simp), ⟨⟨by decide +kernel, by decide +kernel⟩, by decide +kernel⟩, h, trivial⟩
  | .node w ps, h, hz => by
    rw [sz] at hz
    have hl := len_szs ps
    have hw : Pq (.str (wd w)) := by cases w <;> exact ⟨⟨by decide +kernel, by decide +kernel⟩, by decide +kernel⟩
    refine ⟨(by simp), hw, ⟨by rw [encs_len]; omega, pqs_encs ps h (by omega)⟩, trivial⟩
theorem pqs_encs : ∀ ps : List Fm, Ons (fun x => Pq (.str x)) ps → szs ps ≤ 300 → Pqs (encs ps)
  | [], _, _ => trivial
  | f :: fs, h, hz => by
    rw [szs] at hz
    exact ⟨pq_enc f h.1 (by omega), pqs_encs fs h.2 (by omega)⟩
end
theorem nds_strs : ∀ xs : List Str, nds (xs.map .str) = xs.length
  | [] => rfl
  | x :: xs => by
    rw [List.map_cons, nds, nds_strs xs, List.length_cons]
    simp only [nd]; omega
theorem lay_strs : ∀ {xs : List Str}, (∀ x ∈ xs, Sh (.str x)) → PyData.canLayAll0 (xs.map .str) = true
  | [], _ => by rw [List.map_nil, PyData.canLayAll0]
  | x :: xs, h => by
    rw [List.map_cons, PyData.canLayAll0, (h x (List.mem_cons_self ..)).1, lay_strs fun y hy => h y (List.mem_cons_of_mem _ hy)]; rfl
theorem plS (z : Str) (h : ((PyData.str z).canLay0 && decide ((PyData.str z).depth ≤ 60) && decide (z.length ≤ sizeLine)) = true) : Pl (.str z) := by
  simp only [Bool.and_eq_true, decide_eq_true_eq] at h
  exact ⟨⟨h.1.1, h.1.2⟩, h.2⟩
theorem pls_app {a b : List D} : Pls (a ++ b) ↔ Pls a ∧ Pls b := by
  rw [pls_mem, pls_mem, pls_mem]
  simp only [List.mem_append]
  exact ⟨fun h => ⟨fun d hd => h d (.inl hd), fun d hd => h d (.inr hd)⟩, fun h d hd => hd.elim (h.1 d) (h.2 d)⟩
theorem a2_id {f : Vl → Vl → S → R Vl} {x y z : Vl} {s : S} (h : A2 f x y s z) : A2 f x y s z := h
theorem al_id {f : List Vl → S → R Vl} {x : List Vl} {z : Vl} {s : S} (h : AL f x s z) : AL f x s z := h
theorem ao_id {f : List Vl → S → R Ob} {x : List Vl} {z : Ob} {s : S} (h : AO' f x s z) : AO' f x s z := h
theorem a_is0 {F : Fn} {xs : List Vl} {d : D} {s : S} (e : Is F xs d) (hn : xs.all notOwn = true) : AL (callV F) xs s (.d d) := a_is e hn
theorem wp_is0 {F : Fn} {args : List Vl} {d : D} {st : S} {Q : Vl → S → Prop} (e : Is F args d) (hn : args.all notOwn = true) (q : Q (.d d) st) : wp (callV F args st) Q := wp_is e q hn
end RA
set_option Elab.async false
set_option linter.all false
set_option maxRecDepth 100000
set_option maxHeartbeats 4000000
namespace Lk01
open PySem PySem.Spec PyProof.Rows L2 RA
noncomputable def F_is_integer : Fn := mFun 1
  (sRet (mAndV (m1 (fIsi isIntD) (mVar 0)) (mNotV (m1 (fIsi isBoolD) (mVar 0)))))
noncomputable def F_is_within : Fn := mFun 3
  (sRet (mAndV (mCall (callV F_is_integer) (aCons (mVar 0) aNil)) (mChain opLe opLe (mVar 1) (mVar 0) (mVar 2))))
noncomputable def F_is_name : Fn := mFun 2
  (sSeq (sIf (mOr (mNot (mB (m1 (fIsi isStrD) (mVar 0)))) (mOr (mNot (mB (mChain opLe opLe (mC (.int 1)) (mCall fLen (aCons (mVar 0) aNil)) (mC (.int 8))))) (mB (m2 opIn (mVar 0) (mKT [(.str (Str.ofString "all")), (.str (Str.ofString "any")), (.str (Str.ofString "demand")), (.str (Str.ofString "gift")), (.str (Str.ofString "key")), (.str (Str.ofString "lock")), (.str (Str.ofString "party")), (.str (Str.ofString "sleep"))]))))) (sRet (mC (.bool false))) sNil) (sRet (mCall fAll (aCons (mFrz (mComp (mItemsA (mVar 0)) (bName 1) tYes1 (m2 opIn (mVar 1) (mC (.str (Str.ofString "abcdefghijklmnopqrstuvwxyz")))) [1])) aNil))))
noncomputable def M_is_shallow (rec : Fn) : Fn := mFun 3
  (sSeq (sIf (mOr (mB (m2 opEq (mVar 1) (mC (.int 0)))) (mOr (mNot (mB (m1 (fIsi isTupD) (mVar 0)))) (mOr (mB (m2 opNe (mCall fLen (aCons (mVar 0) aNil)) (mC (.int 2)))) (mNot (mB (m1 (fIsi isStrD) (m2 opIx (mVar 0) (mC (.int 0))))))))) (sRet (mC (.bool false))) sNil) (sSeq (sIf (mB (m2 opEq (m2 opIx (mVar 0) (mC (.int 0))) (mC (.str (Str.ofString "gift"))))) (sRet (mCall (callV F_is_name) (aCons (m2 opIx (mVar 0) (mC (.int 1))) aNil))) sNil) (sSeq (sIf (mOr (mB (m2 opNotIn (m2 opIx (mVar 0) (mC (.int 0))) (mKT [(.str (Str.ofString "all")), (.str (Str.ofString "any"))]))) (mOr (mNot (mB (m1 (fIsi isTupD) (m2 opIx (mVar 0) (mC (.int 1)))))) (mB (m2 opGt (mCall fLen (aCons (m2 opIx (mVar 0) (mC (.int 1))) aNil)) (mC (.int 8)))))) (sRet (mC (.bool false))) sNil) (sRet (mCall fAll (aCons (mFrz (mComp (mItemsA (m2 opIx (mVar 0) (mC (.int 1)))) (bName 2) tYes1 (mCall (callV rec) (aCons (mVar 2) (aCons (m2 opSub (mVar 1) (mC (.int 1))) aNil))) [2])) aNil))))))
noncomputable def F_is_shallow : Nat → Fn
  | 0 => badF
  | n + 1 => M_is_shallow (F_is_shallow n)
noncomputable def F_is_formula : Fn := mFun 1
  (sRet (mCall (callV (F_is_shallow 24)) (aCons (mVar 0) (aCons (mC (.int 6)) aNil))))
noncomputable def F_is_set : Fn := mFun 3
  (sSeq (sIf (mOr (mNot (mB (m1 (fIsi isTupD) (mVar 0)))) (mNot (mB (mCall fAll (aCons (mFrz (mComp (mItemsA (mVar 0)) (bName 1) tYes1 (mCall (callV F_is_name) (aCons (mVar 1) aNil)) [1])) aNil))))) (sRet (mC (.bool false))) sNil) (sRet (mCall fAll (aCons (mFrz (mComp (mZip (mVar 0) (mSl (mVar 0) (oSome (mC (.int 1))) oNone)) (bTup 2 (bCons (bName 1) (bCons (bName 2) bNil))) tYes1 (m2 opLt (mVar 1) (mVar 2)) [1, 2])) aNil))))
noncomputable def M_depth_of (rec : Fn) : Fn := mFun 2
  (sRet (mIf (mB (m2 opEq (m2 opIx (mVar 0) (mC (.int 0))) (mC (.str (Str.ofString "gift"))))) (mC (.int 1)) (m2 opAdd (mC (.int 1)) (mCall fMax (aCons (mFrz (mLst (aCons (mC (.int 0)) (aStar (mFrz (mComp (mItemsA (m2 opIx (mVar 0) (mC (.int 1)))) (bName 1) tYes1 (mCall (callV rec) (aCons (mVar 1) aNil)) [1])) aNil)))) aNil)))))
noncomputable def F_depth_of : Nat → Fn
  | 0 => badF
  | n + 1 => M_depth_of (F_depth_of n)
noncomputable def M_size_of (rec : Fn) : Fn := mFun 2
  (sRet (mIf (mB (m2 opEq (m2 opIx (mVar 0) (mC (.int 0))) (mC (.str (Str.ofString "gift"))))) (mC (.int 1)) (m2 opAdd (mC (.int 1)) (mCall fSum (aCons (mFrz (mComp (mItemsA (m2 opIx (mVar 0) (mC (.int 1)))) (bName 1) tYes1 (mCall (callV rec) (aCons (mVar 1) aNil)) [1])) aNil)))))
noncomputable def F_size_of : Nat → Fn
  | 0 => badF
  | n + 1 => M_size_of (F_size_of n)
noncomputable def F_names_in : Fn := mFun 4
  (sSeq (sParFF 1 2 (mLst (aCons (mVar 0) aNil)) mDnew) (sSeq (loopW (mB (m2 opNe (mVar 1) (mFrz (mLst aNil)))) (sSeq (sSet 3 (mMt0 isLs fPop (mVar 1))) (sIf (mB (m2 opEq (m2 opIx (mVar 3) (mC (.int 0))) (mC (.str (Str.ofString "gift"))))) (sStoreK (mC (.bool true)) (mVar 2) (m2 opIx (mVar 3) (mC (.int 1)))) (sExpr (mMt isLs fExtendA (mVar 1) (aCons (m2 opIx (mVar 3) (mC (.int 1))) aNil))))) wFuel) (sRet (mCall fTuple (aCons (mFrz (mCallF fSortedD (aCons (mVar 2) aNil))) aNil)))))
noncomputable def F_l_bag : Fn := mFun 2
  (sRetF (mLst (aCons (mC (.int 0)) (aCons (mC (.int 1234567891)) (aCons (mC (.int 0)) (aCons (mFrz (mComp (mItemsA (mSl (mVar 0) oNone (oSome (mC (.int 63))))) (bName 1) tYes1 (mCall fAbs (aCons (mVar 1) aNil)) [1])) aNil))))))
noncomputable def F_l_take : Fn := mFun 7
  (sSeq (sIf (mB (m2 opEq (m2 opIx (mVar 0) (mC (.int 0))) (mC (.int 0)))) (sSeq (sSet 2 (m2 opIx (m2 opAdd (mSl (m2 opIx (mVar 0) (mC (.int 3))) (oSome (m2 opIx (mVar 0) (mC (.int 2)))) oNone) (mFrz (mLst (aCons (mC (.int 0)) aNil)))) (mC (.int 0)))) (sSeq (sAugS (opI fun i j => .int (i + j)) (mVar 0) (mC (.int 2)) (mC (.int 1))) (sSeq (sIf (mB (m2 opGe (mVar 2) (m2 opPow (mC (.int 10)) (mC (.int 18))))) (sStore (mVar 2) (mVar 0) (mC (.int 0))) sNil) (sSeq (sSet 3 (m2 opAdd (m2 opAdd (m2 opMul (m2 opIx (mVar 0) (mC (.int 1))) (mC (.int 48271))) (m2 opMod (mCall fInt (aCons (mVar 2) aNil)) (mC (.int 2147483647)))) (m2 opMul (mC (.int 7919)) (m2 opIx (mVar 0) (mC (.int 2)))))) (sStore (m2 opMod (mCall fInt (aCons (mVar 3) aNil)) (mC (.int 2147483647))) (mVar 0) (mC (.int 1))))))) sNil) (sSeq (sIf (mB (m2 opGt (m2 opIx (mVar 0) (mC (.int 0))) (mC (.int 0)))) (sSeq (sSet 4 (m2 opMod (mCall fInt (aCons (m2 opIx (mVar 0) (mC (.int 0))) aNil)) (mVar 1))) (sSeq (sStore (m2 opFdiv (mCall fInt (aCons (m2 opIx (mVar 0) (mC (.int 0))) aNil)) (mVar 1)) (mVar 0) (mC (.int 0))) (sRet (mVar 4)))) sNil) (sSeq (sSet 5 (m2 opMod (mCall fInt (aCons (m2 opMul (m2 opAdd (m2 opIx (mVar 0) (mC (.int 1))) (mC (.int 1))) (mC (.int 39373))) aNil)) (mC (.int 1000000007)))) (sSeq (sSet 6 (m2 opMod (mCall fInt (aCons (m2 opMul (m2 opMod (mCall fInt (aCons (m2 opMul (mVar 5) (mVar 5)) aNil)) (mC (.int 998244353))) (mC (.int 30011))) aNil)) (mC (.int 998244353)))) (sRet (m2 opMod (mCall fInt (aCons (m2 opFdiv (mVar 6) (mC (.int 7))) aNil)) (mVar 1)))))))
noncomputable def F_l_some : Fn := mFun 2
  (sRet (m2 opIx (mVar 1) (mCall (callV F_l_take) (aCons (mVar 0) (aCons (mCall fLen (aCons (mVar 1) aNil)) aNil)))))
noncomputable def F_l_mixed : Fn := mFun 4
  (sSeq (sParFF 2 3 (mCallF fList (aCons (mVar 1) aNil)) (mLst aNil)) (sSeq (loopW (mB (m2 opNe (mVar 2) (mFrz (mLst aNil)))) (sExpr (mMt isLs fAppend (mVar 3) (aCons (mMt isLs fPopAt (mVar 2) (aCons (mCall (callV F_l_take) (aCons (mVar 0) (aCons (mCall fLen (aCons (mVar 2) aNil)) aNil))) aNil)) aNil))) wFuel) (sFrz 3 (sRet (mVar 3)))))
noncomputable def F_l_alike : Fn := mFun 6
  (sSeq (sParFV 2 3 (mLst (aCons (mTup (aCons (mVar 0) (aCons (mVar 1) aNil))) aNil)) (mC (.int 0))) (sSeq (loopW (mB (m2 opLt (mVar 3) (mCall fLen (aCons (mVar 2) aNil)))) (sSeq (sUnp (bTup 2 (bCons (bName 4) (bCons (bName 5) bNil))) (m2 opIx (mVar 2) (mVar 3))) (sSeq (sAug 3 (opI fun i j => .int (i + j)) (mC (.int 1))) (sSeq (sIf (mOr (mB (m2 opNe (m1 (fIsi isBoolD) (mVar 4)) (m1 (fIsi isBoolD) (mVar 5)))) (mB (m2 opNe (m1 (fIsi isStrD) (mVar 4)) (m1 (fIsi isStrD) (mVar 5))))) (sRet (mC (.bool false))) sNil) (sSeq (sIf (mB (m2 opNe (m1 (fIsi fun d => isTupD d || isListD d) (mVar 4)) (m1 (fIsi fun d => isTupD d || isListD d) (mVar 5)))) (sRet (mC (.bool false))) sNil) (sIf (mB (m1 (fIsi fun d => isTupD d || isListD d) (mVar 4))) (sSeq (sIf (mOr (mB (m2 opNe (m1 (fIsi isTupD) (mVar 4)) (m1 (fIsi isTupD) (mVar 5)))) (mB (m2 opNe (mCall fLen (aCons (mVar 4) aNil)) (mCall fLen (aCons (mVar 5) aNil))))) (sRet (mC (.bool false))) sNil) (sExpr (mMt isLs fExtendA (mVar 2) (aCons (mFrz (mCallF fListZip (aCons (mVar 4) (aCons (mVar 5) aNil)))) aNil)))) (sIf (mB (m2 opNe (mVar 4) (mVar 5))) (sRet (mC (.bool false))) sNil)))))) wFuel) (sRet (mC (.bool true)))))
noncomputable def F_l_is_int : Fn := mFun 1
  (sRet (mAndV (m1 (fIsi isIntD) (mVar 0)) (mNotV (m1 (fIsi isBoolD) (mVar 0)))))
noncomputable def M_l_bent (rec : Fn) : Fn := mFun 5
  (sSeq (sSet 3 (mCall (callV F_l_take) (aCons (mVar 0) (aCons (mC (.int 5)) aNil)))) (sSeq (sIf (mAnd (mB (m2 opGt (mVar 2) (mC (.int 0)))) (mAnd (mB (m1 (fIsi isTupD) (mVar 1))) (mAnd (mB (m2 opNe (mVar 1) (mTup aNil))) (mB (m2 opGt (mVar 3) (mC (.int 0))))))) (sSeq (sSet 4 (mCall (callV F_l_take) (aCons (mVar 0) (aCons (mCall fLen (aCons (mVar 1) aNil)) aNil)))) (sSeq (sIf (mB (m2 opEq (mVar 3) (mC (.int 1)))) (sRet (m2 opAdd (mSl (mVar 1) oNone (oSome (mVar 4))) (mSl (mVar 1) (oSome (m2 opAdd (mVar 4) (mC (.int 1)))) oNone))) sNil) (sSeq (sIf (mB (m2 opEq (mVar 3) (mC (.int 2)))) (sRet (m2 opAdd (m2 opAdd (mSl (mVar 1) oNone (oSome (mVar 4))) (mSl (mVar 1) (oSome (mVar 4)) (oSome (m2 opAdd (mVar 4) (mC (.int 1)))))) (mSl (mVar 1) (oSome (mVar 4)) oNone))) sNil) (sRet (m2 opAdd (m2 opAdd (mSl (mVar 1) oNone (oSome (mVar 4))) (mTup (aCons (mCall (callV rec) (aCons (mVar 0) (aCons (m2 opIx (mVar 1) (mVar 4)) (aCons (m2 opSub (mVar 2) (mC (.int 1))) aNil)))) aNil))) (mSl (mVar 1) (oSome (m2 opAdd (mVar 4) (mC (.int 1)))) oNone)))))) sNil) (sSeq (sIf (mAnd (mB (mCall (callV F_l_is_int) (aCons (mVar 1) aNil))) (mB (m2 opGt (mVar 3) (mC (.int 0))))) (sRet (m2 opAdd (mVar 1) (mCall (callV F_l_some) (aCons (mVar 0) (aCons (mFrz (mLst (aCons (mC (.int 1)) (aCons (m1 opNeg (mC (.int 1))) (aCons (mC (.int 2)) (aCons (mC (.int 9)) aNil)))))) aNil))))) sNil) (sRet (mCall (callV F_l_some) (aCons (mVar 0) (aCons (mFrz (mLst (aCons (mC .none) (aCons (mC (.bool true)) (aCons (mC (.str (Str.ofString ""))) (aCons (mC (.str (Str.ofString "a"))) (aCons (mC (.int 7)) (aCons (m1 opNeg (mC (.int 1))) (aCons (mTup aNil) (aCons (mTup (aCons (mC (.int 0)) aNil)) (aCons (mIf (mB (m1 (fIsi isTupD) (mVar 1))) (mFrz (mCallF fList (aCons (mVar 1) aNil))) (mC (.str (Str.ofString "zz")))) aNil))))))))))) aNil)))))))
noncomputable def F_l_bent : Nat → Fn
  | 0 => badF
  | n + 1 => M_l_bent (F_l_bent n)
noncomputable def M_l_formula (rec : Fn) : Fn := mFun 6
  (sSeq (sSet 3 (mCall (callV F_l_take) (aCons (mVar 0) (aCons (mC (.int 8)) aNil)))) (sSeq (sIf (mOr (mB (m2 opEq (mVar 2) (mC (.int 0)))) (mB (m2 opLt (mVar 3) (mC (.int 4))))) (sSeq (sIf (mOr (mB (m2 opEq (mVar 1) (mFrz (mLst aNil)))) (mB (m2 opEq (mCall (callV F_l_take) (aCons (mVar 0) (aCons (mC (.int 12)) aNil))) (mC (.int 0))))) (sRet (mTup (aCons (mCall (callV F_l_some) (aCons (mVar 0) (aCons (mFrz (mLst (aCons (mC (.str (Str.ofString "all"))) (aCons (mC (.str (Str.ofString "any"))) (aCons (mC (.str (Str.ofString "all"))) aNil))))) aNil))) (aCons (mTup aNil) aNil)))) sNil) (sRet (mTup (aCons (mC (.str (Str.ofString "gift"))) (aCons (mCall (callV F_l_some) (aCons (mVar 0) (aCons (mVar 1) aNil))) aNil))))) sNil) (sSeq (sSet 4 (mCall (callV F_l_some) (aCons (mVar 0) (aCons (mFrz (mLst (aCons (mC (.str (Str.ofString "all"))) (aCons (mC (.str (Str.ofString "any"))) aNil)))) aNil)))) (sRet (mTup (aCons (mVar 4) (aCons (mCall fTuple (aCons (mFrz (mComp (mSrc fRange1 (aCons (m2 opAdd (mC (.int 1)) (mCall (callV F_l_take) (aCons (mVar 0) (aCons (mC (.int 3)) aNil)))) aNil)) (bName 5) tYes1 (mCall (callV rec) (aCons (mVar 0) (aCons (mVar 1) (aCons (m2 opSub (mVar 2) (mC (.int 1))) aNil)))) [5])) aNil)) aNil)))))))
noncomputable def F_l_formula : Nat → Fn
  | 0 => badF
  | n + 1 => M_l_formula (F_l_formula n)
noncomputable def M_l_names_in (rec : Fn) : Fn := mFun 3
  (sSeq (sIf (mB (m2 opEq (m2 opIx (mVar 0) (mC (.int 0))) (mC (.str (Str.ofString "gift"))))) (sRet (mFrz (mLst (aCons (m2 opIx (mVar 0) (mC (.int 1))) aNil)))) sNil) (sSeq (sSet 1 (mFrz (mLst aNil))) (sSeq (sFor (mItemsA (m2 opIx (mVar 0) (mC (.int 1)))) (bName 2) (sSet 1 (m2 opAdd (mVar 1) (mCall (callV rec) (aCons (mVar 2) aNil))))) (sRet (mFrz (mCallF fSortedSet (aCons (mVar 1) aNil)))))))
noncomputable def F_l_names_in : Nat → Fn
  | 0 => badF
  | n + 1 => M_l_names_in (F_l_names_in n)
noncomputable def F_l_odd : Fn := mFun 1
  (sRet (mCall (callV F_l_some) (aCons (mVar 0) (aCons (mFrz (mLst (aCons (mC .none) (aCons (mC (.bool true)) (aCons (mC (.int 7)) (aCons (mC (.str (Str.ofString "A"))) (aCons (mTup aNil) (aCons (mTup (aCons (mTup aNil) aNil)) (aCons (mFrz (mLst aNil)) (aCons (mFrz mDnew) (aCons (mTup (aCons (mC (.str (Str.ofString "a"))) (aCons (mC (.int 1)) aNil))) (aCons (mTup (aCons (mC (.int 0)) (aCons (mC (.int 1)) aNil))) (aCons (mTup (aCons (mTup (aCons (mC (.int 1)) (aCons (mC (.int 2)) aNil))) aNil)) (aCons (m2 opPow (mC (.int 10)) (mC (.int 25))) (aCons (mTup (aCons (mC .none) aNil)) (aCons (mTup (aCons (mTup (aCons (mC (.bool true)) (aCons (mC (.int 0)) aNil))) aNil)) (aCons (m1 opNeg (mC (.int 1))) aNil))))))))))))))))) aNil))))
noncomputable def F_l_is_name : Fn := mFun 3
  (sSeq (sSet 1 (mFrz (mLst (aCons (mC (.str (Str.ofString "all"))) (aCons (mC (.str (Str.ofString "any"))) (aCons (mC (.str (Str.ofString "demand"))) (aCons (mC (.str (Str.ofString "gift"))) (aCons (mC (.str (Str.ofString "key"))) (aCons (mC (.str (Str.ofString "lock"))) (aCons (mC (.str (Str.ofString "party"))) (aCons (mC (.str (Str.ofString "sleep"))) aNil))))))))))) (sSeq (sIf (mOr (mNot (mB (m1 (fIsi isStrD) (mVar 0)))) (mOr (mNot (mB (mChain opLe opLe (mC (.int 1)) (mCall fLen (aCons (mVar 0) aNil)) (mC (.int 8))))) (mB (m2 opIn (mVar 0) (mVar 1))))) (sRet (mC (.bool false))) sNil) (sRet (m2 opEq (mFrz (mComp (mItemsA (mVar 0)) (bName 2) (mB (m2 opNotIn (mVar 2) (mC (.str (Str.ofString "abcdefghijklmnopqrstuvwxyz"))))) (mVar 2) [2])) (mFrz (mLst aNil))))))
noncomputable def M_l_is_formula (rec : Fn) : Fn := mFun 3
  (sSeq (sIf (mOr (mB (m2 opEq (mVar 1) (mC (.int 0)))) (mOr (mNot (mB (m1 (fIsi isTupD) (mVar 0)))) (mOr (mB (m2 opNe (mCall fLen (aCons (mVar 0) aNil)) (mC (.int 2)))) (mNot (mB (m1 (fIsi isStrD) (m2 opIx (mVar 0) (mC (.int 0))))))))) (sRet (mC (.bool false))) sNil) (sSeq (sIf (mB (m2 opEq (m2 opIx (mVar 0) (mC (.int 0))) (mC (.str (Str.ofString "gift"))))) (sRet (mCall (callV F_l_is_name) (aCons (m2 opIx (mVar 0) (mC (.int 1))) aNil))) sNil) (sSeq (sIf (mOr (mB (m2 opNotIn (m2 opIx (mVar 0) (mC (.int 0))) (mTup (aCons (mC (.str (Str.ofString "all"))) (aCons (mC (.str (Str.ofString "any"))) aNil))))) (mOr (mNot (mB (m1 (fIsi isTupD) (m2 opIx (mVar 0) (mC (.int 1)))))) (mB (m2 opGt (mCall fLen (aCons (m2 opIx (mVar 0) (mC (.int 1))) aNil)) (mC (.int 8)))))) (sRet (mC (.bool false))) sNil) (sRet (m2 opEq (mFrz (mComp (mItemsA (m2 opIx (mVar 0) (mC (.int 1)))) (bName 2) (mNot (mB (mCall (callV rec) (aCons (mVar 2) (aCons (m2 opSub (mVar 1) (mC (.int 1))) aNil))))) (mC (.int 1)) [2])) (mFrz (mLst aNil)))))))
noncomputable def F_l_is_formula : Nat → Fn
  | 0 => badF
  | n + 1 => M_l_is_formula (F_l_is_formula n)
noncomputable def F_l_is_set : Fn := mFun 2
  (sSeq (sIf (mOr (mNot (mB (m1 (fIsi isTupD) (mVar 0)))) (mB (m2 opNe (mFrz (mComp (mItemsA (mVar 0)) (bName 1) (mNot (mB (mCall (callV F_l_is_name) (aCons (mVar 1) aNil)))) (mC (.int 1)) [1])) (mFrz (mLst aNil))))) (sRet (mC (.bool false))) sNil) (sRet (m2 opEq (mFrz (mCallF fList (aCons (mVar 0) aNil))) (mFrz (mCallF fSortedSet (aCons (mVar 0) aNil))))))
noncomputable def M_l_depth (rec : Fn) : Fn := mFun 2
  (sRet (mIf (mB (m2 opEq (m2 opIx (mVar 0) (mC (.int 0))) (mC (.str (Str.ofString "gift"))))) (mC (.int 1)) (m2 opAdd (mC (.int 1)) (mCall fMax (aCons (m2 opAdd (mFrz (mLst (aCons (mC (.int 0)) aNil))) (mFrz (mComp (mItemsA (m2 opIx (mVar 0) (mC (.int 1)))) (bName 1) tYes1 (mCall (callV rec) (aCons (mVar 1) aNil)) [1]))) aNil)))))
noncomputable def F_l_depth : Nat → Fn
  | 0 => badF
  | n + 1 => M_l_depth (F_l_depth n)
noncomputable def M_l_size (rec : Fn) : Fn := mFun 2
  (sRet (mIf (mB (m2 opEq (m2 opIx (mVar 0) (mC (.int 0))) (mC (.str (Str.ofString "gift"))))) (mC (.int 1)) (m2 opAdd (mC (.int 1)) (mCall fSum (aCons (mFrz (mComp (mItemsA (m2 opIx (mVar 0) (mC (.int 1)))) (bName 1) tYes1 (mCall (callV rec) (aCons (mVar 1) aNil)) [1])) aNil)))))
noncomputable def F_l_size : Nat → Fn
  | 0 => badF
  | n + 1 => M_l_size (F_l_size n)
noncomputable def F_law : Fn := mFun 14
  (sSeq (sLoc 1 (mCallF (callO F_l_bag) (aCons (mVar 0) aNil))) (sSeq (sFor (mSrc fRange1 (aCons (mC (.int 6)) aNil)) (bName 2) (sSeq (sPar 3 4 (mCall (callV (F_l_formula 24)) (aCons (mVar 1) (aCons (mFrz (mLst (aCons (mC (.str (Str.ofString "g"))) (aCons (mC (.str (Str.ofString "h"))) (aCons (mC (.str (Str.ofString "k"))) (aCons (mC (.str (Str.ofString "l"))) aNil)))))) (aCons (mC (.int 3)) aNil)))) (m2 opSub (mCall (callV F_l_take) (aCons (mVar 1) (aCons (mC (.int 5)) aNil))) (mC (.int 2)))) (sSeq (sSet 5 (mVar 3)) (sSeq (sFor (mSrc fRange1 (aCons (mCall (callV F_l_take) (aCons (mVar 1) (aCons (mC (.int 5)) aNil))) aNil)) (bName 6) (sSet 5 (mCall (callV F_l_some) (aCons (mVar 1) (aCons (mFrz (mLst (aCons (mTup (aCons (mC (.str (Str.ofString "all"))) (aCons (mTup (aCons (mVar 5) aNil)) aNil))) (aCons (mTup (aCons (mC (.str (Str.ofString "any"))) (aCons (mTup (aCons (mTup (aCons (mC (.str (Str.ofString "gift"))) (aCons (mC (.str (Str.ofString "g"))) aNil))) (aCons (mVar 5) aNil))) aNil))) aNil)))) aNil))))) (sSeq (sSet 7 (mTup (aCons (mC (.str (Str.ofString "any"))) (aCons (m2 opRepA (mTup (aCons (mTup (aCons (mC (.str (Str.ofString "gift"))) (aCons (mC (.str (Str.ofString "g"))) aNil))) aNil)) (mCall (callV F_l_some) (aCons (mVar 1) (aCons (mFrz (mLst (aCons (mC (.int 7)) (aCons (mC (.int 8)) (aCons (mC (.int 9)) aNil))))) aNil)))) aNil)))) (sSeq (sSet 8 (mCall fTuple (aCons (mSl (mCall (callV F_l_mixed) (aCons (mVar 1) (aCons (mFrz (mLst (aCons (mC (.str (Str.ofString "g"))) (aCons (mC (.str (Str.ofString "h"))) (aCons (mC (.str (Str.ofString "ha"))) (aCons (mC (.str (Str.ofString "k"))) aNil)))))) aNil))) oNone (oSome (mCall (callV F_l_take) (aCons (mVar 1) (aCons (mC (.int 5)) aNil))))) aNil))) (sSeq (sSet 9 (mFrz (mLst (aCons (mVar 3) (aCons (mVar 5) (aCons (mVar 7) (aCons (mVar 8) (aCons (mCall fTuple (aCons (mFrz (mCallF fSortedA (aCons (mVar 8) aNil))) aNil)) (aCons (mTup (aCons (mC (.str (Str.ofString "g"))) (aCons (mC (.str (Str.ofString "g"))) aNil))) (aCons (mTup (aCons (mC (.str (Str.ofString "gift"))) (aCons (mC (.str (Str.ofString "gift"))) aNil))) (aCons (mTup (aCons (mC (.str (Str.ofString "gift"))) (aCons (mC (.str (Str.ofString "all"))) aNil))) (aCons (mTup (aCons (mC (.str (Str.ofString "all"))) (aCons (mTup aNil) aNil))) (aCons (mTup (aCons (mC (.str (Str.ofString "any"))) (aCons (mFrz (mLst aNil)) aNil))) (aCons (mTup (aCons (mC (.str (Str.ofString "both"))) (aCons (mTup aNil) aNil))) aNil)))))))))))))) (sSeq (sSet 9 (m2 opAdd (mVar 9) (mFrz (mLst (aCons (mC (.str (Str.ofString "g"))) (aCons (mC (.str (Str.ofString "demand"))) (aCons (mC (.str (Str.ofString "hillside"))) (aCons (mC (.str (Str.ofString "hillsides"))) (aCons (mC (.str (Str.ofString "Hill"))) (aCons (mC (.str (Str.ofString ""))) (aCons (mC (.str (Str.ofString "a1"))) (aCons (mC (.int 4)) (aCons (mVar 4) (aCons (mC (.bool true)) (aCons (mTup (aCons (mC (.str (Str.ofString "g"))) (aCons (mC (.str (Str.ofString "h"))) (aCons (mC (.int 3)) aNil)))) (aCons (mCall (callV F_l_odd) (aCons (mVar 1) aNil)) aNil)))))))))))))))) (sSeq (sFor (mItemsA (m2 opAdd (mVar 9) (mFrz (mLst (aCons (mCall (callV (F_l_bent 24)) (aCons (mVar 1) (aCons (mVar 5) (aCons (mC (.int 4)) aNil)))) (aCons (mCall (callV (F_l_bent 24)) (aCons (mVar 1) (aCons (mVar 3) (aCons (mC (.int 3)) aNil)))) (aCons (mCall (callV (F_l_bent 24)) (aCons (mVar 1) (aCons (mVar 8) (aCons (mC (.int 1)) aNil)))) aNil))))))) (bName 10) (sSeq (sSet 11 (mFrz (mLst (aCons (mCall (callV F_is_integer) (aCons (mVar 10) aNil)) (aCons (mCall (callV F_is_within) (aCons (mVar 10) (aCons (mVar 4) (aCons (mC (.int 7)) aNil)))) (aCons (mCall (callV F_is_name) (aCons (mVar 10) aNil)) (aCons (mCall (callV F_is_formula) (aCons (mVar 10) aNil)) (aCons (mCall (callV F_is_set) (aCons (mVar 10) aNil)) aNil)))))))) (sSeq (sSet 12 (mFrz (mLst (aCons (mCall (callV F_l_is_int) (aCons (mVar 10) aNil)) (aCons (mAndV (mCall (callV F_l_is_int) (aCons (mVar 10) aNil)) (mChain opLe opLe (mVar 4) (mVar 10) (mC (.int 7)))) (aCons (mCall (callV F_l_is_name) (aCons (mVar 10) aNil)) (aCons (mCall (callV (F_l_is_formula 24)) (aCons (mVar 10) (aCons (mC (.int 6)) aNil))) aNil))))))) (sIf (mNot (mB (mCall (callV F_l_alike) (aCons (mVar 11) (aCons (m2 opAdd (mVar 12) (mFrz (mLst (aCons (mCall (callV F_l_is_set) (aCons (mVar 10) aNil)) aNil)))) aNil))))) (sRet (mC (.bool false))) sNil)))) (sIf (mB (mCall (callV (F_l_is_formula 24)) (aCons (mVar 5) (aCons (mC (.int 6)) aNil)))) (sSeq (sSet 13 (mFrz (mLst (aCons (mCall (callV F_names_in) (aCons (mVar 5) aNil)) (aCons (mCall (callV (F_depth_of 24)) (aCons (mVar 5) aNil)) (aCons (mCall (callV (F_size_of 24)) (aCons (mVar 5) aNil)) aNil)))))) (sIf (mNot (mB (mCall (callV F_l_alike) (aCons (mVar 13) (aCons (mFrz (mLst (aCons (mCall fTuple (aCons (mCall (callV (F_l_names_in 24)) (aCons (mVar 5) aNil)) aNil)) (aCons (mCall (callV (F_l_depth 24)) (aCons (mVar 5) aNil)) (aCons (mCall (callV (F_l_size 24)) (aCons (mVar 5) aNil)) aNil))))) aNil))))) (sRet (mC (.bool false))) sNil)) sNil)))))))))) (sRet (mC (.bool true)))))
end Lk01
set_option Elab.async false
set_option linter.all false
set_option maxRecDepth 100000
set_option maxHeartbeats 4000000
namespace Lk01
open PySem PySem.Spec PyProof.Rows L2 RA
def topS (i : Nat) : Stmt := PySem.Challenge.pw_lockedgifts_k01_forms_of_values_and_form.main.body.getD i (.Pass ⟨0, 0, 0, 0⟩)
abbrev s_is_integer : Stmt := topS 8
abbrev s_is_within : Stmt := topS 9
abbrev s_is_name : Stmt := topS 10
abbrev s_is_shallow : Stmt := topS 11
abbrev s_is_formula : Stmt := topS 12
abbrev s_is_set : Stmt := topS 13
abbrev s_depth_of : Stmt := topS 15
abbrev s_size_of : Stmt := topS 16
abbrev s_names_in : Stmt := topS 18
abbrev s_l_bag : Stmt := topS 20
abbrev s_l_take : Stmt := topS 21
abbrev s_l_some : Stmt := topS 22
abbrev s_l_mixed : Stmt := topS 23
abbrev s_l_alike : Stmt := topS 24
abbrev s_l_is_int : Stmt := topS 25
abbrev s_l_bent : Stmt := topS 26
abbrev s_l_formula : Stmt := topS 27
abbrev s_l_names_in : Stmt := topS 28
abbrev s_l_odd : Stmt := topS 29
abbrev s_l_is_name : Stmt := topS 30
abbrev s_l_is_formula : Stmt := topS 31
abbrev s_l_is_set : Stmt := topS 32
abbrev s_l_depth : Stmt := topS 33
abbrev s_l_size : Stmt := topS 34
abbrev s_law : Stmt := topS 35
structure Txt (K : PySem.W.Frag) (w : World) (mg : Str → Option Value) where
  is_integer : Fn1 K mg "is_integer" s_is_integer ["thing"]
  is_within : Fn1 K mg "is_within" s_is_within ["thing", "least", "most"]
  is_name : Fn1 K mg "is_name" s_is_name ["thing"]
  is_shallow : Fn1 K mg "is_shallow" s_is_shallow ["thing", "levels"]
  is_formula : Fn1 K mg "is_formula" s_is_formula ["thing"]
  is_set : Fn1 K mg "is_set" s_is_set ["thing"]
  depth_of : Fn1 K mg "depth_of" s_depth_of ["formula"]
  size_of : Fn1 K mg "size_of" s_size_of ["formula"]
  names_in : Fn1 K mg "names_in" s_names_in ["formula"]
  l_bag : Fn1 K mg "_law_bag" s_l_bag ["script"]
  l_take : Fn1 K mg "_law_take" s_l_take ["bag", "many"]
  l_some : Fn1 K mg "_law_some" s_l_some ["bag", "things"]
  l_mixed : Fn1 K mg "_law_mixed" s_l_mixed ["bag", "things"]
  l_alike : Fn1 K mg "_law_alike" s_l_alike ["found", "due"]
  l_is_int : Fn1 K mg "_law_is_int" s_l_is_int ["thing"]
  l_bent : Fn1 K mg "_law_bent" s_l_bent ["bag", "thing", "depth"]
  l_formula : Fn1 K mg "_law_formula" s_l_formula ["bag", "names", "depth"]
  l_names_in : Fn1 K mg "_law_names_in" s_l_names_in ["formula"]
  l_odd : Fn1 K mg "_law_odd" s_l_odd ["bag"]
  l_is_name : Fn1 K mg "_law_is_name" s_l_is_name ["thing"]
  l_is_formula : Fn1 K mg "_law_is_formula" s_l_is_formula ["thing", "levels"]
  l_is_set : Fn1 K mg "_law_is_set" s_l_is_set ["thing"]
  l_depth : Fn1 K mg "_law_depth" s_l_depth ["formula"]
  l_size : Fn1 K mg "_law_size" s_l_size ["formula"]
  law : Fn1 K mg "law" s_law ["script"]
  n_abs : mg "abs" = none
  n_all : mg "all" = none
  n_bool : mg "bool" = none
  n_int : mg "int" = none
  n_isinstance : mg "isinstance" = none
  n_len : mg "len" = none
  n_list : mg "list" = none
  n_max : mg "max" = none
  n_range : mg "range" = none
  n_set : mg "set" = none
  n_sorted : mg "sorted" = none
  n_str : mg "str" = none
  n_sum : mg "sum" = none
  n_tuple : mg "tuple" = none
  n_zip : mg "zip" = none
  c_GIFT : Con0 mg "GIFT" (.str (Str.ofString "gift"))
  c_JOINS : ConT K mg "JOINS" [(.str (Str.ofString "all")), (.str (Str.ofString "any"))]
  c_LETTERS : Con0 mg "LETTERS" (.str (Str.ofString "abcdefghijklmnopqrstuvwxyz"))
  c_MOST_DEPTH : Con0 mg "MOST_DEPTH" (.int 6)
  c_MOST_NAME : Con0 mg "MOST_NAME" (.int 8)
  c_MOST_PARTS : Con0 mg "MOST_PARTS" (.int 8)
  c_RESERVED : ConT K mg "RESERVED" [(.str (Str.ofString "all")), (.str (Str.ofString "any")), (.str (Str.ofString "demand")), (.str (Str.ofString "gift")), (.str (Str.ofString "key")), (.str (Str.ofString "lock")), (.str (Str.ofString "party")), (.str (Str.ofString "sleep"))]
section
variable {P : Program} {w : World} {K : PySem.W.Frag} {mg : Str → Option Value} {base : Heap}
theorem sc_is_integer : FnScope ["thing"] ["thing"] (defScope s_is_integer) := ⟨rfl, rfl, rfl, by decide +kernel, rfl, by decide +kernel, by decide +kernel⟩
theorem ok_is_integer (T : Txt K w mg) : Ok P w K mg base 1 T.is_integer F_is_integer :=
  fn_ok T.is_integer.F sc_is_integer fun cdv A outer s H E hr =>
    (ass_one (as_ret (ae_and (x_isi isi_int T.n_isinstance T.n_int (ae_var (pv 0))) (ae_one (ae_not (x_isi isi_bool T.n_isinstance T.n_bool (ae_var (pv 0))))))))
theorem sc_is_within : FnScope ["thing", "least", "most"] ["thing", "least", "most"] (defScope s_is_within) := ⟨rfl, rfl, rfl, by decide +kernel, rfl, by decide +kernel, by decide +kernel⟩
theorem ok_is_within (T : Txt K w mg) : Ok P w K mg base 2 T.is_within F_is_within :=
  fn_ok T.is_within.F sc_is_within fun cdv A outer s H E hr =>
    (ass_one (as_ret (ae_and (x_call (f := T.is_integer) (ok_is_integer T) hr (show 1 ≤ 1 by omega) (takes_of rfl rfl rfl rfl) (aa_cons (ae_var (pv 0)) aa_nil) (alen_cons alen_nil)) (ae_one (x_chain (c_le) (c_le) (ae_var (pv 1)) (ae_var (pv 0)) (ae_var (pv 2)))))))
theorem sc_is_name : FnScope ["thing", "sign"] ["thing"] (defScope s_is_name) := ⟨rfl, rfl, rfl, by decide +kernel, rfl, by decide +kernel, by decide +kernel⟩
theorem ok_is_name (T : Txt K w mg) : Ok P w K mg base 1 T.is_name F_is_name :=
  fn_ok T.is_name.F sc_is_name fun cdv A outer s H E hr =>
    (ass_cons (as_if (at_pw (aw_or (at_not (tt (x_isi isi_str T.n_isinstance T.n_str (ae_var (pv 0))))) (aw_or (at_not (t_chain (c_le) (c_le) ae_int (x_len T.n_len (aa_cons (ae_var (pv 0)) aa_nil)) (x_con T.c_MOST_NAME (fun _ _ => .int _)))) (aw_or1 (t_in hr (ae_var (pv 0)) (x_kt T.c_RESERVED)))))) (ass_one (as_ret ae_bl)) ass_nil) (ass_one (as_ret (x_all T.n_all (aa_cons (ae_frz (f_lc [("sign", 1)] sc_is_name.nd (ai_itemsA (ae_var (pv 0))) (blkOk_by (N := ["thing", "sign"]) (sc := defScope s_is_name) (own := [("sign", 1)]) (by decide +kernel)) (fun _ _ _ _ _ => (y_gn 1 sc_is_name.nd)) (fun _ _ _ _ _ => (x_in hr (ae_var (pv 1)) (x_con T.c_LETTERS (fun _ _ => .str _)))) (by decide))) aa_nil)))))
theorem sc_is_shallow : FnScope ["thing", "levels", "part"] ["thing", "levels"] (defScope s_is_shallow) := ⟨rfl, rfl, rfl, by decide +kernel, rfl, by decide +kernel, by decide +kernel⟩
theorem ok_is_shallow (T : Txt K w mg) : ∀ n, Ok P w K mg base (1 + n) T.is_shallow (F_is_shallow n)
  | 0 => ok_bad _
  | n + 1 => fn_ok T.is_shallow.F sc_is_shallow fun cdv A outer s H E hr =>
    (ass_cons (as_if (at_pw (aw_or (t_eq hr (ae_var (pv 1)) ae_int) (aw_or (at_not (tt (x_isi isi_tuple T.n_isinstance T.n_tuple (ae_var (pv 0))))) (aw_or (t_ne hr (x_len T.n_len (aa_cons (ae_var (pv 0)) aa_nil)) ae_int) (aw_or1 (at_not (tt (x_isi isi_str T.n_isinstance T.n_str (x_ix (ae_var (pv 0)) ae_int))))))))) (ass_one (as_ret ae_bl)) ass_nil) (ass_cons (as_if (t_eq hr (x_ix (ae_var (pv 0)) ae_int) (x_con T.c_GIFT (fun _ _ => .str _))) (ass_one (as_ret (x_call (f := T.is_name) (ok_is_name T) hr (show 1 ≤ 1 + n by omega) (takes_of rfl rfl rfl rfl) (aa_cons (x_ix (ae_var (pv 0)) ae_int) aa_nil) (alen_cons alen_nil)))) ass_nil) (ass_cons (as_if (at_pw (aw_or (t_nin hr (x_ix (ae_var (pv 0)) ae_int) (x_kt T.c_JOINS)) (aw_or (at_not (tt (x_isi isi_tuple T.n_isinstance T.n_tuple (x_ix (ae_var (pv 0)) ae_int)))) (aw_or1 (t_gt (x_len T.n_len (aa_cons (x_ix (ae_var (pv 0)) ae_int) aa_nil)) (x_con T.c_MOST_PARTS (fun _ _ => .int _))))))) (ass_one (as_ret ae_bl)) ass_nil) (ass_one (as_ret (x_all T.n_all (aa_cons (ae_frz (f_lc [("part", 2)] sc_is_shallow.nd (ai_itemsA (x_ix (ae_var (pv 0)) ae_int)) (blkOk_by (N := ["thing", "levels", "part"]) (sc := defScope s_is_shallow) (own := [("part", 2)]) (by decide +kernel)) (fun _ _ _ _ _ => (y_gn 2 sc_is_shallow.nd)) (fun _ _ _ _ _ => (x_call (f := T.is_shallow) (ok_is_shallow T n) hr (Nat.le_refl _) takes0 (aa_cons (ae_var (pv 2)) (aa_cons (x_sub (ae_var (pv 1)) ae_int) aa_nil)) (alen_cons (alen_cons alen_nil)))) (by decide))) aa_nil)))))))
theorem sc_is_formula : FnScope ["thing"] ["thing"] (defScope s_is_formula) := ⟨rfl, rfl, rfl, by decide +kernel, rfl, by decide +kernel, by decide +kernel⟩
theorem ok_is_formula (T : Txt K w mg) : Ok P w K mg base 26 T.is_formula F_is_formula :=
  fn_ok T.is_formula.F sc_is_formula fun cdv A outer s H E hr =>
    (ass_one (as_ret (x_call (f := T.is_shallow) (ok_is_shallow T 24) hr (show 25 ≤ 25 by omega) (takes_of rfl rfl rfl rfl) (aa_cons (ae_var (pv 0)) (aa_cons (x_con T.c_MOST_DEPTH (fun _ _ => .int _)) aa_nil)) (alen_cons (alen_cons alen_nil)))))
theorem sc_is_set : FnScope ["thing", "one", "other"] ["thing"] (defScope s_is_set) := ⟨rfl, rfl, rfl, by decide +kernel, rfl, by decide +kernel, by decide +kernel⟩
theorem ok_is_set (T : Txt K w mg) : Ok P w K mg base 2 T.is_set F_is_set :=
  fn_ok T.is_set.F sc_is_set fun cdv A outer s H E hr =>
    (ass_cons (as_if (at_pw (aw_or (at_not (tt (x_isi isi_tuple T.n_isinstance T.n_tuple (ae_var (pv 0))))) (aw_or1 (at_not (tt (x_all T.n_all (aa_cons (ae_frz (f_lc [("one", 1)] sc_is_set.nd (ai_itemsA (ae_var (pv 0))) (blkOk_by (N := ["thing", "one", "other"]) (sc := defScope s_is_set) (own := [("one", 1)]) (by decide +kernel)) (fun _ _ _ _ _ => (y_gn 1 sc_is_set.nd)) (fun _ _ _ _ _ => (x_call (f := T.is_name) (ok_is_name T) hr (show 1 ≤ 1 by omega) takes0 (aa_cons (ae_var (pv 1)) aa_nil) (alen_cons alen_nil))) (by decide))) aa_nil))))))) (ass_one (as_ret ae_bl)) ass_nil) (ass_one (as_ret (x_all T.n_all (aa_cons (ae_frz (f_lc [("one", 1), ("other", 2)] sc_is_set.nd (x_zip T.n_zip (ae_var (pv 0)) (ae_sl (ae_var (pv 0)) (ao_some ae_int) ao_none)) (blkOk_by (N := ["thing", "one", "other"]) (sc := defScope s_is_set) (own := [("one", 1), ("other", 2)]) (by decide +kernel)) (fun _ _ _ _ _ => (y_gt (ags_cons (y_gn 1 sc_is_set.nd) (ags_cons (y_gn 2 sc_is_set.nd) ags_nil)))) (fun _ _ _ _ _ => (x_lt (ae_var (pv 1)) (ae_var (pv 2)))) (by decide))) aa_nil)))))
theorem sc_depth_of : FnScope ["formula", "part"] ["formula"] (defScope s_depth_of) := ⟨rfl, rfl, rfl, by decide +kernel, rfl, by decide +kernel, by decide +kernel⟩
theorem ok_depth_of (T : Txt K w mg) : ∀ n, Ok P w K mg base (0 + n) T.depth_of (F_depth_of n)
  | 0 => ok_bad _
  | n + 1 => fn_ok T.depth_of.F sc_depth_of fun cdv A outer s H E hr =>
    (ass_one (as_ret (ae_if (t_eq hr (x_ix (ae_var (pv 0)) ae_int) (x_con T.c_GIFT (fun _ _ => .str _))) ae_int (x_add ae_int (x_max T.n_max (aa_cons (ae_frz (af_lst (aa_cons ae_int (aa_star (ae_frz (f_lc [("part", 1)] sc_depth_of.nd (ai_itemsA (x_ix (ae_var (pv 0)) ae_int)) (blkOk_by (N := ["formula", "part"]) (sc := defScope s_depth_of) (own := [("part", 1)]) (by decide +kernel)) (fun _ _ _ _ _ => (y_gn 1 sc_depth_of.nd)) (fun _ _ _ _ _ => (x_call (f := T.depth_of) (ok_depth_of T n) hr (Nat.le_refl _) takes0 (aa_cons (ae_var (pv 1)) aa_nil) (alen_cons alen_nil))) (by decide))) aa_nil)))) aa_nil))))))
theorem sc_size_of : FnScope ["formula", "part"] ["formula"] (defScope s_size_of) := ⟨rfl, rfl, rfl, by decide +kernel, rfl, by decide +kernel, by decide +kernel⟩
theorem ok_size_of (T : Txt K w mg) : ∀ n, Ok P w K mg base (0 + n) T.size_of (F_size_of n)
  | 0 => ok_bad _
  | n + 1 => fn_ok T.size_of.F sc_size_of fun cdv A outer s H E hr =>
    (ass_one (as_ret (ae_if (t_eq hr (x_ix (ae_var (pv 0)) ae_int) (x_con T.c_GIFT (fun _ _ => .str _))) ae_int (x_add ae_int (x_sum T.n_sum (aa_cons (ae_frz (f_lc [("part", 1)] sc_size_of.nd (ai_itemsA (x_ix (ae_var (pv 0)) ae_int)) (blkOk_by (N := ["formula", "part"]) (sc := defScope s_size_of) (own := [("part", 1)]) (by decide +kernel)) (fun _ _ _ _ _ => (y_gn 1 sc_size_of.nd)) (fun _ _ _ _ _ => (x_call (f := T.size_of) (ok_size_of T n) hr (Nat.le_refl _) takes0 (aa_cons (ae_var (pv 1)) aa_nil) (alen_cons alen_nil))) (by decide))) aa_nil))))))
theorem sc_names_in : FnScope ["formula", "line", "found", "here"] ["formula"] (defScope s_names_in) := ⟨rfl, rfl, rfl, by decide +kernel, rfl, by decide +kernel, by decide +kernel⟩
theorem ok_names_in (T : Txt K w mg) : Ok P w K mg base 1 T.names_in F_names_in :=
  fn_ok T.names_in.F sc_names_in fun cdv A outer s H E hr =>
    (ass_cons (y_parFF 1 2 sc_names_in.nd (af_lst (aa_cons (ae_var (pv 0)) aa_nil)) f_dnew) (ass_cons (as_while wFuel (passes_of rfl) (t_ne hr (ae_var (pv 1)) (ae_frz (af_lst aa_nil))) (ass_cons (y_set 3 sc_names_in.nd (x_pop (ae_var (pv 1)))) (ass_one (as_if (t_eq hr (x_ix (ae_var (pv 3)) ae_int) (x_con T.c_GIFT (fun _ _ => .str _))) (ass_one (y_storeK hr ae_bl (ae_var (pv 2)) (x_ix (ae_var (pv 3)) ae_int))) (ass_one (as_expr (x_extendA (ae_var (pv 1)) (aa_cons (x_ix (ae_var (pv 3)) ae_int) aa_nil)))))))) (ass_one (as_ret (x_tuple T.n_tuple (aa_cons (ae_frz (f_sortedD T.n_sorted (aa_cons (ae_var (pv 2)) aa_nil))) aa_nil))))))
theorem sc_l_bag : FnScope ["script", "cell"] ["script"] (defScope s_l_bag) := ⟨rfl, rfl, rfl, by decide +kernel, rfl, by decide +kernel, by decide +kernel⟩
theorem ok_l_bag (T : Txt K w mg) : Ok P w K mg base 1 T.l_bag F_l_bag :=
  fn_ok T.l_bag.F sc_l_bag fun cdv A outer s H E hr =>
    (ass_one (as_retF (af_lst (aa_cons ae_int (aa_cons ae_int (aa_cons ae_int (aa_cons (ae_frz (f_lc [("cell", 1)] sc_l_bag.nd (ai_itemsA (ae_sl (ae_var (pv 0)) ao_none (ao_some ae_int))) (blkOk_by (N := ["script", "cell"]) (sc := defScope s_l_bag) (own := [("cell", 1)]) (by decide +kernel)) (fun _ _ _ _ _ => (y_gn 1 sc_l_bag.nd)) (fun _ _ _ _ _ => (x_abs T.n_abs (aa_cons (ae_var (pv 1)) aa_nil))) (by decide))) aa_nil)))))))
theorem sc_l_take : FnScope ["bag", "many", "cell", "stirred", "value", "begin", "second"] ["bag", "many"] (defScope s_l_take) := ⟨rfl, rfl, rfl, by decide +kernel, rfl, by decide +kernel, by decide +kernel⟩
theorem ok_l_take (T : Txt K w mg) : Ok P w K mg base 1 T.l_take F_l_take :=
  fn_ok T.l_take.F sc_l_take fun cdv A outer s H E hr =>
    (ass_cons (as_if (t_eq hr (x_ix (ae_var (pv 0)) ae_int) ae_int) (ass_cons (y_set 2 sc_l_take.nd (x_ix (x_add (ae_sl (x_ix (ae_var (pv 0)) ae_int) (ao_some (x_ix (ae_var (pv 0)) ae_int)) ao_none) (ae_frz (af_lst (aa_cons ae_int aa_nil)))) ae_int)) (ass_cons (y_augSAdd (ae_var (pv 0)) ae_int ae_int) (ass_cons (as_if (t_ge (ae_var (pv 2)) (x_pow ae_int ae_int)) (ass_one (y_store (ae_var (pv 2)) (ae_var (pv 0)) ae_int)) ass_nil) (ass_cons (y_set 3 sc_l_take.nd (x_add (x_add (x_mul (x_ix (ae_var (pv 0)) ae_int) ae_int) (x_mod (x_int T.n_int (aa_cons (ae_var (pv 2)) aa_nil)) ae_int)) (x_mul ae_int (x_ix (ae_var (pv 0)) ae_int)))) (ass_one (y_store (x_mod (x_int T.n_int (aa_cons (ae_var (pv 3)) aa_nil)) ae_int) (ae_var (pv 0)) ae_int)))))) ass_nil) (ass_cons (as_if (t_gt (x_ix (ae_var (pv 0)) ae_int) ae_int) (ass_cons (y_set 4 sc_l_take.nd (x_mod (x_int T.n_int (aa_cons (x_ix (ae_var (pv 0)) ae_int) aa_nil)) (ae_var (pv 1)))) (ass_cons (y_store (x_fdiv (x_int T.n_int (aa_cons (x_ix (ae_var (pv 0)) ae_int) aa_nil)) (ae_var (pv 1))) (ae_var (pv 0)) ae_int) (ass_one (as_ret (ae_var (pv 4)))))) ass_nil) (ass_cons (y_set 5 sc_l_take.nd (x_mod (x_int T.n_int (aa_cons (x_mul (x_add (x_ix (ae_var (pv 0)) ae_int) ae_int) ae_int) aa_nil)) ae_int)) (ass_cons (y_set 6 sc_l_take.nd (x_mod (x_int T.n_int (aa_cons (x_mul (x_mod (x_int T.n_int (aa_cons (x_mul (ae_var (pv 5)) (ae_var (pv 5))) aa_nil)) ae_int) ae_int) aa_nil)) ae_int)) (ass_one (as_ret (x_mod (x_int T.n_int (aa_cons (x_fdiv (ae_var (pv 6)) ae_int) aa_nil)) (ae_var (pv 1)))))))))
theorem sc_l_some : FnScope ["bag", "things"] ["bag", "things"] (defScope s_l_some) := ⟨rfl, rfl, rfl, by decide +kernel, rfl, by decide +kernel, by decide +kernel⟩
theorem ok_l_some (T : Txt K w mg) : Ok P w K mg base 2 T.l_some F_l_some :=
  fn_ok T.l_some.F sc_l_some fun cdv A outer s H E hr =>
    (ass_one (as_ret (x_ix (ae_var (pv 1)) (x_call (f := T.l_take) (ok_l_take T) hr (show 1 ≤ 1 by omega) (takes_of rfl rfl rfl rfl) (aa_cons (ae_var (pv 0)) (aa_cons (x_len T.n_len (aa_cons (ae_var (pv 1)) aa_nil)) aa_nil)) (alen_cons (alen_cons alen_nil))))))
theorem sc_l_mixed : FnScope ["bag", "things", "left", "found"] ["bag", "things"] (defScope s_l_mixed) := ⟨rfl, rfl, rfl, by decide +kernel, rfl, by decide +kernel, by decide +kernel⟩
theorem ok_l_mixed (T : Txt K w mg) : Ok P w K mg base 2 T.l_mixed F_l_mixed :=
  fn_ok T.l_mixed.F sc_l_mixed fun cdv A outer s H E hr =>
    (ass_cons (y_parFF 2 3 sc_l_mixed.nd (f_list T.n_list (aa_cons (ae_var (pv 1)) aa_nil)) (af_lst aa_nil)) (ass_cons (as_while wFuel (passes_of rfl) (t_ne hr (ae_var (pv 2)) (ae_frz (af_lst aa_nil))) (ass_one (as_expr (x_append (ae_var (pv 3)) (aa_cons (x_popAt (ae_var (pv 2)) (aa_cons (x_call (f := T.l_take) (ok_l_take T) hr (show 1 ≤ 1 by omega) (takes_of rfl rfl rfl rfl) (aa_cons (ae_var (pv 0)) (aa_cons (x_len T.n_len (aa_cons (ae_var (pv 2)) aa_nil)) aa_nil)) (alen_cons (alen_cons alen_nil))) aa_nil)) aa_nil))))) (ass_one (y_frz 3 (as_ret (ae_var (pv 3)))))))
theorem sc_l_alike : FnScope ["found", "due", "pairs", "at", "one", "other"] ["found", "due"] (defScope s_l_alike) := ⟨rfl, rfl, rfl, by decide +kernel, rfl, by decide +kernel, by decide +kernel⟩
theorem ok_l_alike (T : Txt K w mg) : Ok P w K mg base 1 T.l_alike F_l_alike :=
  fn_ok T.l_alike.F sc_l_alike fun cdv A outer s H E hr =>
    (ass_cons (y_parFV 2 3 sc_l_alike.nd (af_lst (aa_cons (ae_tup (aa_cons (ae_var (pv 0)) (aa_cons (ae_var (pv 1)) aa_nil))) aa_nil)) ae_int) (ass_cons (as_while wFuel (passes_of rfl) (t_lt (ae_var (pv 3)) (x_len T.n_len (aa_cons (ae_var (pv 2)) aa_nil))) (ass_cons (y_unp (x_ix (ae_var (pv 2)) (ae_var (pv 3))) (y_gt (ags_cons (y_gn 4 sc_l_alike.nd) (ags_cons (y_gn 5 sc_l_alike.nd) ags_nil)))) (ass_cons (y_augAdd 3 sc_l_alike.nd ae_int) (ass_cons (as_if (at_pw (aw_or (t_ne hr (x_isi isi_bool T.n_isinstance T.n_bool (ae_var (pv 4))) (x_isi isi_bool T.n_isinstance T.n_bool (ae_var (pv 5)))) (aw_or1 (t_ne hr (x_isi isi_str T.n_isinstance T.n_str (ae_var (pv 4))) (x_isi isi_str T.n_isinstance T.n_str (ae_var (pv 5))))))) (ass_one (as_ret ae_bl)) ass_nil) (ass_cons (as_if (t_ne hr (x_isi2 isi_tuple isi_list T.n_isinstance T.n_tuple T.n_list (ae_var (pv 4))) (x_isi2 isi_tuple isi_list T.n_isinstance T.n_tuple T.n_list (ae_var (pv 5)))) (ass_one (as_ret ae_bl)) ass_nil) (ass_one (as_if (tt (x_isi2 isi_tuple isi_list T.n_isinstance T.n_tuple T.n_list (ae_var (pv 4)))) (ass_cons (as_if (at_pw (aw_or (t_ne hr (x_isi isi_tuple T.n_isinstance T.n_tuple (ae_var (pv 4))) (x_isi isi_tuple T.n_isinstance T.n_tuple (ae_var (pv 5)))) (aw_or1 (t_ne hr (x_len T.n_len (aa_cons (ae_var (pv 4)) aa_nil)) (x_len T.n_len (aa_cons (ae_var (pv 5)) aa_nil)))))) (ass_one (as_ret ae_bl)) ass_nil) (ass_one (as_expr (x_extendA (ae_var (pv 2)) (aa_cons (ae_frz (f_listZip T.n_list T.n_zip (aa_cons (ae_var (pv 4)) (aa_cons (ae_var (pv 5)) aa_nil)))) aa_nil))))) (ass_one (as_if (t_ne hr (ae_var (pv 4)) (ae_var (pv 5))) (ass_one (as_ret ae_bl)) ass_nil))))))))) (ass_one (as_ret ae_bl))))
theorem sc_l_is_int : FnScope ["thing"] ["thing"] (defScope s_l_is_int) := ⟨rfl, rfl, rfl, by decide +kernel, rfl, by decide +kernel, by decide +kernel⟩
theorem ok_l_is_int (T : Txt K w mg) : Ok P w K mg base 1 T.l_is_int F_l_is_int :=
  fn_ok T.l_is_int.F sc_l_is_int fun cdv A outer s H E hr =>
    (ass_one (as_ret (ae_and (x_isi isi_int T.n_isinstance T.n_int (ae_var (pv 0))) (ae_one (ae_not (x_isi isi_bool T.n_isinstance T.n_bool (ae_var (pv 0))))))))
theorem sc_l_bent : FnScope ["bag", "thing", "depth", "way", "at"] ["bag", "thing", "depth"] (defScope s_l_bent) := ⟨rfl, rfl, rfl, by decide +kernel, rfl, by decide +kernel, by decide +kernel⟩
theorem ok_l_bent (T : Txt K w mg) : ∀ n, Ok P w K mg base (2 + n) T.l_bent (F_l_bent n)
  | 0 => ok_bad _
  | n + 1 => fn_ok T.l_bent.F sc_l_bent fun cdv A outer s H E hr =>
    (ass_cons (y_set 3 sc_l_bent.nd (x_call (f := T.l_take) (ok_l_take T) hr (show 1 ≤ 2 + n by omega) (takes_of rfl rfl rfl rfl) (aa_cons (ae_var (pv 0)) (aa_cons ae_int aa_nil)) (alen_cons (alen_cons alen_nil)))) (ass_cons (as_if (at_pw (aw_and (t_gt (ae_var (pv 2)) ae_int) (aw_and (tt (x_isi isi_tuple T.n_isinstance T.n_tuple (ae_var (pv 1)))) (aw_and (t_ne hr (ae_var (pv 1)) (ae_tup aa_nil)) (aw_and1 (t_gt (ae_var (pv 3)) ae_int)))))) (ass_cons (y_set 4 sc_l_bent.nd (x_call (f := T.l_take) (ok_l_take T) hr (show 1 ≤ 2 + n by omega) (takes_of rfl rfl rfl rfl) (aa_cons (ae_var (pv 0)) (aa_cons (x_len T.n_len (aa_cons (ae_var (pv 1)) aa_nil)) aa_nil)) (alen_cons (alen_cons alen_nil)))) (ass_cons (as_if (t_eq hr (ae_var (pv 3)) ae_int) (ass_one (as_ret (x_add (ae_sl (ae_var (pv 1)) ao_none (ao_some (ae_var (pv 4)))) (ae_sl (ae_var (pv 1)) (ao_some (x_add (ae_var (pv 4)) ae_int)) ao_none)))) ass_nil) (ass_cons (as_if (t_eq hr (ae_var (pv 3)) ae_int) (ass_one (as_ret (x_add (x_add (ae_sl (ae_var (pv 1)) ao_none (ao_some (ae_var (pv 4)))) (ae_sl (ae_var (pv 1)) (ao_some (ae_var (pv 4))) (ao_some (x_add (ae_var (pv 4)) ae_int)))) (ae_sl (ae_var (pv 1)) (ao_some (ae_var (pv 4))) ao_none)))) ass_nil) (ass_one (as_ret (x_add (x_add (ae_sl (ae_var (pv 1)) ao_none (ao_some (ae_var (pv 4)))) (ae_tup (aa_cons (x_call (f := T.l_bent) (ok_l_bent T n) hr (Nat.le_refl _) (takes_of rfl rfl rfl rfl) (aa_cons (ae_var (pv 0)) (aa_cons (x_ix (ae_var (pv 1)) (ae_var (pv 4))) (aa_cons (x_sub (ae_var (pv 2)) ae_int) aa_nil))) (alen_cons (alen_cons (alen_cons alen_nil)))) aa_nil))) (ae_sl (ae_var (pv 1)) (ao_some (x_add (ae_var (pv 4)) ae_int)) ao_none))))))) ass_nil) (ass_cons (as_if (at_pw (aw_and (tt (x_call (f := T.l_is_int) (ok_l_is_int T) hr (show 1 ≤ 2 + n by omega) (takes_of rfl rfl rfl rfl) (aa_cons (ae_var (pv 1)) aa_nil) (alen_cons alen_nil))) (aw_and1 (t_gt (ae_var (pv 3)) ae_int)))) (ass_one (as_ret (x_add (ae_var (pv 1)) (x_call (f := T.l_some) (ok_l_some T) hr (show 2 ≤ 2 + n by omega) (takes_of rfl rfl rfl rfl) (aa_cons (ae_var (pv 0)) (aa_cons (ae_frz (af_lst (aa_cons ae_int (aa_cons (x_neg ae_int) (aa_cons ae_int (aa_cons ae_int aa_nil)))))) aa_nil)) (alen_cons (alen_cons alen_nil)))))) ass_nil) (ass_one (as_ret (x_call (f := T.l_some) (ok_l_some T) hr (show 2 ≤ 2 + n by omega) (takes_of rfl rfl rfl rfl) (aa_cons (ae_var (pv 0)) (aa_cons (ae_frz (af_lst (aa_cons ae_non (aa_cons ae_bl (aa_cons ae_str (aa_cons ae_str (aa_cons ae_int (aa_cons (x_neg ae_int) (aa_cons (ae_tup aa_nil) (aa_cons (ae_tup (aa_cons ae_int aa_nil)) (aa_cons (ae_if (tt (x_isi isi_tuple T.n_isinstance T.n_tuple (ae_var (pv 1)))) (ae_frz (f_list T.n_list (aa_cons (ae_var (pv 1)) aa_nil))) ae_str) aa_nil))))))))))) aa_nil)) (alen_cons (alen_cons alen_nil))))))))
theorem sc_l_formula : FnScope ["bag", "names", "depth", "way", "word", "part"] ["bag", "names", "depth"] (defScope s_l_formula) := ⟨rfl, rfl, rfl, by decide +kernel, rfl, by decide +kernel, by decide +kernel⟩
theorem ok_l_formula (T : Txt K w mg) : ∀ n, Ok P w K mg base (2 + n) T.l_formula (F_l_formula n)
  | 0 => ok_bad _
  | n + 1 => fn_ok T.l_formula.F sc_l_formula fun cdv A outer s H E hr =>
    (ass_cons (y_set 3 sc_l_formula.nd (x_call (f := T.l_take) (ok_l_take T) hr (show 1 ≤ 2 + n by omega) (takes_of rfl rfl rfl rfl) (aa_cons (ae_var (pv 0)) (aa_cons ae_int aa_nil)) (alen_cons (alen_cons alen_nil)))) (ass_cons (as_if (at_pw (aw_or (t_eq hr (ae_var (pv 2)) ae_int) (aw_or1 (t_lt (ae_var (pv 3)) ae_int)))) (ass_cons (as_if (at_pw (aw_or (t_eq hr (ae_var (pv 1)) (ae_frz (af_lst aa_nil))) (aw_or1 (t_eq hr (x_call (f := T.l_take) (ok_l_take T) hr (show 1 ≤ 2 + n by omega) (takes_of rfl rfl rfl rfl) (aa_cons (ae_var (pv 0)) (aa_cons ae_int aa_nil)) (alen_cons (alen_cons alen_nil))) ae_int)))) (ass_one (as_ret (ae_tup (aa_cons (x_call (f := T.l_some) (ok_l_some T) hr (show 2 ≤ 2 + n by omega) (takes_of rfl rfl rfl rfl) (aa_cons (ae_var (pv 0)) (aa_cons (ae_frz (af_lst (aa_cons ae_str (aa_cons ae_str (aa_cons ae_str aa_nil))))) aa_nil)) (alen_cons (alen_cons alen_nil))) (aa_cons (ae_tup aa_nil) aa_nil))))) ass_nil) (ass_one (as_ret (ae_tup (aa_cons ae_str (aa_cons (x_call (f := T.l_some) (ok_l_some T) hr (show 2 ≤ 2 + n by omega) (takes_of rfl rfl rfl rfl) (aa_cons (ae_var (pv 0)) (aa_cons (ae_var (pv 1)) aa_nil)) (alen_cons (alen_cons alen_nil))) aa_nil)))))) ass_nil) (ass_cons (y_set 4 sc_l_formula.nd (x_call (f := T.l_some) (ok_l_some T) hr (show 2 ≤ 2 + n by omega) (takes_of rfl rfl rfl rfl) (aa_cons (ae_var (pv 0)) (aa_cons (ae_frz (af_lst (aa_cons ae_str (aa_cons ae_str aa_nil)))) aa_nil)) (alen_cons (alen_cons alen_nil)))) (ass_one (as_ret (ae_tup (aa_cons (ae_var (pv 4)) (aa_cons (x_tuple T.n_tuple (aa_cons (ae_frz (f_lc [("part", 5)] sc_l_formula.nd (ai_range1 rfl T.n_range (aa_cons (x_add ae_int (x_call (f := T.l_take) (ok_l_take T) hr (show 1 ≤ 2 + n by omega) (takes_of rfl rfl rfl rfl) (aa_cons (ae_var (pv 0)) (aa_cons ae_int aa_nil)) (alen_cons (alen_cons alen_nil)))) aa_nil)) (blkOk_by (N := ["bag", "names", "depth", "way", "word", "part"]) (sc := defScope s_l_formula) (own := [("part", 5)]) (by decide +kernel)) (fun _ _ _ _ _ => (y_gn 5 sc_l_formula.nd)) (fun _ _ _ _ _ => (x_call (f := T.l_formula) (ok_l_formula T n) hr (Nat.le_refl _) takes0 (aa_cons (ae_var (pv 0)) (aa_cons (ae_var (pv 1)) (aa_cons (x_sub (ae_var (pv 2)) ae_int) aa_nil))) (alen_cons (alen_cons (alen_cons alen_nil))))) (by decide))) aa_nil)) aa_nil))))))))
theorem sc_l_names_in : FnScope ["formula", "found", "part"] ["formula"] (defScope s_l_names_in) := ⟨rfl, rfl, rfl, by decide +kernel, rfl, by decide +kernel, by decide +kernel⟩
theorem ok_l_names_in (T : Txt K w mg) : ∀ n, Ok P w K mg base (0 + n) T.l_names_in (F_l_names_in n)
  | 0 => ok_bad _
  | n + 1 => fn_ok T.l_names_in.F sc_l_names_in fun cdv A outer s H E hr =>
    (ass_cons (as_if (t_eq hr (x_ix (ae_var (pv 0)) ae_int) ae_str) (ass_one (as_ret (ae_frz (af_lst (aa_cons (x_ix (ae_var (pv 0)) ae_int) aa_nil))))) ass_nil) (ass_cons (y_set 1 sc_l_names_in.nd (ae_frz (af_lst aa_nil))) (ass_cons (as_for (passes_of rfl) rfl (ai_itemsA (x_ix (ae_var (pv 0)) ae_int)) (y_gn 2 sc_l_names_in.nd) (ass_one (y_set 1 sc_l_names_in.nd (x_add (ae_var (pv 1)) (x_call (f := T.l_names_in) (ok_l_names_in T n) hr (Nat.le_refl _) (takes_of rfl rfl rfl rfl) (aa_cons (ae_var (pv 2)) aa_nil) (alen_cons alen_nil)))))) (ass_one (as_ret (ae_frz (f_sortedSet T.n_sorted T.n_set (aa_cons (ae_var (pv 1)) aa_nil))))))))
theorem sc_l_odd : FnScope ["bag"] ["bag"] (defScope s_l_odd) := ⟨rfl, rfl, rfl, by decide +kernel, rfl, by decide +kernel, by decide +kernel⟩
theorem ok_l_odd (T : Txt K w mg) : Ok P w K mg base 3 T.l_odd F_l_odd :=
  fn_ok T.l_odd.F sc_l_odd fun cdv A outer s H E hr =>
    (ass_one (as_ret (x_call (f := T.l_some) (ok_l_some T) hr (show 2 ≤ 2 by omega) (takes_of rfl rfl rfl rfl) (aa_cons (ae_var (pv 0)) (aa_cons (ae_frz (af_lst (aa_cons ae_non (aa_cons ae_bl (aa_cons ae_int (aa_cons ae_str (aa_cons (ae_tup aa_nil) (aa_cons (ae_tup (aa_cons (ae_tup aa_nil) aa_nil)) (aa_cons (ae_frz (af_lst aa_nil)) (aa_cons (ae_frz f_dnew) (aa_cons (ae_tup (aa_cons ae_str (aa_cons ae_int aa_nil))) (aa_cons (ae_tup (aa_cons ae_int (aa_cons ae_int aa_nil))) (aa_cons (ae_tup (aa_cons (ae_tup (aa_cons ae_int (aa_cons ae_int aa_nil))) aa_nil)) (aa_cons (x_pow ae_int ae_int) (aa_cons (ae_tup (aa_cons ae_non aa_nil)) (aa_cons (ae_tup (aa_cons (ae_tup (aa_cons ae_bl (aa_cons ae_int aa_nil))) aa_nil)) (aa_cons (x_neg ae_int) aa_nil))))))))))))))))) aa_nil)) (alen_cons (alen_cons alen_nil)))))
theorem sc_l_is_name : FnScope ["thing", "words", "sign"] ["thing"] (defScope s_l_is_name) := ⟨rfl, rfl, rfl, by decide +kernel, rfl, by decide +kernel, by decide +kernel⟩
theorem ok_l_is_name (T : Txt K w mg) : Ok P w K mg base 1 T.l_is_name F_l_is_name :=
  fn_ok T.l_is_name.F sc_l_is_name fun cdv A outer s H E hr =>
    (ass_cons (y_set 1 sc_l_is_name.nd (ae_frz (af_lst (aa_cons ae_str (aa_cons ae_str (aa_cons ae_str (aa_cons ae_str (aa_cons ae_str (aa_cons ae_str (aa_cons ae_str (aa_cons ae_str aa_nil))))))))))) (ass_cons (as_if (at_pw (aw_or (at_not (tt (x_isi isi_str T.n_isinstance T.n_str (ae_var (pv 0))))) (aw_or (at_not (t_chain (c_le) (c_le) ae_int (x_len T.n_len (aa_cons (ae_var (pv 0)) aa_nil)) ae_int)) (aw_or1 (t_in hr (ae_var (pv 0)) (ae_var (pv 1))))))) (ass_one (as_ret ae_bl)) ass_nil) (ass_one (as_ret (x_eq hr (ae_frz (f_lcIf [("sign", 2)] sc_l_is_name.nd (ai_itemsA (ae_var (pv 0))) (blkOk_by (N := ["thing", "words", "sign"]) (sc := defScope s_l_is_name) (own := [("sign", 2)]) (by decide +kernel)) (fun _ _ _ _ _ => (y_gn 2 sc_l_is_name.nd)) (fun _ _ _ _ _ => (t_nin hr (ae_var (pv 2)) ae_str)) (fun _ _ _ _ _ => (ae_var (pv 2))) (by decide))) (ae_frz (af_lst aa_nil)))))))
theorem sc_l_is_formula : FnScope ["thing", "levels", "part"] ["thing", "levels"] (defScope s_l_is_formula) := ⟨rfl, rfl, rfl, by decide +kernel, rfl, by decide +kernel, by decide +kernel⟩
theorem ok_l_is_formula (T : Txt K w mg) : ∀ n, Ok P w K mg base (1 + n) T.l_is_formula (F_l_is_formula n)
  | 0 => ok_bad _
  | n + 1 => fn_ok T.l_is_formula.F sc_l_is_formula fun cdv A outer s H E hr =>
    (ass_cons (as_if (at_pw (aw_or (t_eq hr (ae_var (pv 1)) ae_int) (aw_or (at_not (tt (x_isi isi_tuple T.n_isinstance T.n_tuple (ae_var (pv 0))))) (aw_or (t_ne hr (x_len T.n_len (aa_cons (ae_var (pv 0)) aa_nil)) ae_int) (aw_or1 (at_not (tt (x_isi isi_str T.n_isinstance T.n_str (x_ix (ae_var (pv 0)) ae_int))))))))) (ass_one (as_ret ae_bl)) ass_nil) (ass_cons (as_if (t_eq hr (x_ix (ae_var (pv 0)) ae_int) ae_str) (ass_one (as_ret (x_call (f := T.l_is_name) (ok_l_is_name T) hr (show 1 ≤ 1 + n by omega) (takes_of rfl rfl rfl rfl) (aa_cons (x_ix (ae_var (pv 0)) ae_int) aa_nil) (alen_cons alen_nil)))) ass_nil) (ass_cons (as_if (at_pw (aw_or (t_nin hr (x_ix (ae_var (pv 0)) ae_int) (ae_tup (aa_cons ae_str (aa_cons ae_str aa_nil)))) (aw_or (at_not (tt (x_isi isi_tuple T.n_isinstance T.n_tuple (x_ix (ae_var (pv 0)) ae_int)))) (aw_or1 (t_gt (x_len T.n_len (aa_cons (x_ix (ae_var (pv 0)) ae_int) aa_nil)) ae_int))))) (ass_one (as_ret ae_bl)) ass_nil) (ass_one (as_ret (x_eq hr (ae_frz (f_lcIf [("part", 2)] sc_l_is_formula.nd (ai_itemsA (x_ix (ae_var (pv 0)) ae_int)) (blkOk_by (N := ["thing", "levels", "part"]) (sc := defScope s_l_is_formula) (own := [("part", 2)]) (by decide +kernel)) (fun _ _ _ _ _ => (y_gn 2 sc_l_is_formula.nd)) (fun _ _ _ _ _ => (at_not (tt (x_call (f := T.l_is_formula) (ok_l_is_formula T n) hr (Nat.le_refl _) takes0 (aa_cons (ae_var (pv 2)) (aa_cons (x_sub (ae_var (pv 1)) ae_int) aa_nil)) (alen_cons (alen_cons alen_nil)))))) (fun _ _ _ _ _ => ae_int) (by decide))) (ae_frz (af_lst aa_nil))))))))
theorem sc_l_is_set : FnScope ["thing", "one"] ["thing"] (defScope s_l_is_set) := ⟨rfl, rfl, rfl, by decide +kernel, rfl, by decide +kernel, by decide +kernel⟩
theorem ok_l_is_set (T : Txt K w mg) : Ok P w K mg base 2 T.l_is_set F_l_is_set :=
  fn_ok T.l_is_set.F sc_l_is_set fun cdv A outer s H E hr =>
    (ass_cons (as_if (at_pw (aw_or (at_not (tt (x_isi isi_tuple T.n_isinstance T.n_tuple (ae_var (pv 0))))) (aw_or1 (t_ne hr (ae_frz (f_lcIf [("one", 1)] sc_l_is_set.nd (ai_itemsA (ae_var (pv 0))) (blkOk_by (N := ["thing", "one"]) (sc := defScope s_l_is_set) (own := [("one", 1)]) (by decide +kernel)) (fun _ _ _ _ _ => (y_gn 1 sc_l_is_set.nd)) (fun _ _ _ _ _ => (at_not (tt (x_call (f := T.l_is_name) (ok_l_is_name T) hr (show 1 ≤ 1 by omega) takes0 (aa_cons (ae_var (pv 1)) aa_nil) (alen_cons alen_nil))))) (fun _ _ _ _ _ => ae_int) (by decide))) (ae_frz (af_lst aa_nil)))))) (ass_one (as_ret ae_bl)) ass_nil) (ass_one (as_ret (x_eq hr (ae_frz (f_list T.n_list (aa_cons (ae_var (pv 0)) aa_nil))) (ae_frz (f_sortedSet T.n_sorted T.n_set (aa_cons (ae_var (pv 0)) aa_nil)))))))
theorem sc_l_depth : FnScope ["formula", "part"] ["formula"] (defScope s_l_depth) := ⟨rfl, rfl, rfl, by decide +kernel, rfl, by decide +kernel, by decide +kernel⟩
theorem ok_l_depth (T : Txt K w mg) : ∀ n, Ok P w K mg base (0 + n) T.l_depth (F_l_depth n)
  | 0 => ok_bad _
  | n + 1 => fn_ok T.l_depth.F sc_l_depth fun cdv A outer s H E hr =>
    (ass_one (as_ret (ae_if (t_eq hr (x_ix (ae_var (pv 0)) ae_int) ae_str) ae_int (x_add ae_int (x_max T.n_max (aa_cons (x_add (ae_frz (af_lst (aa_cons ae_int aa_nil))) (ae_frz (f_lc [("part", 1)] sc_l_depth.nd (ai_itemsA (x_ix (ae_var (pv 0)) ae_int)) (blkOk_by (N := ["formula", "part"]) (sc := defScope s_l_depth) (own := [("part", 1)]) (by decide +kernel)) (fun _ _ _ _ _ => (y_gn 1 sc_l_depth.nd)) (fun _ _ _ _ _ => (x_call (f := T.l_depth) (ok_l_depth T n) hr (Nat.le_refl _) takes0 (aa_cons (ae_var (pv 1)) aa_nil) (alen_cons alen_nil))) (by decide)))) aa_nil))))))
theorem sc_l_size : FnScope ["formula", "part"] ["formula"] (defScope s_l_size) := ⟨rfl, rfl, rfl, by decide +kernel, rfl, by decide +kernel, by decide +kernel⟩
theorem ok_l_size (T : Txt K w mg) : ∀ n, Ok P w K mg base (0 + n) T.l_size (F_l_size n)
  | 0 => ok_bad _
  | n + 1 => fn_ok T.l_size.F sc_l_size fun cdv A outer s H E hr =>
    (ass_one (as_ret (ae_if (t_eq hr (x_ix (ae_var (pv 0)) ae_int) ae_str) ae_int (x_add ae_int (x_sum T.n_sum (aa_cons (ae_frz (f_lc [("part", 1)] sc_l_size.nd (ai_itemsA (x_ix (ae_var (pv 0)) ae_int)) (blkOk_by (N := ["formula", "part"]) (sc := defScope s_l_size) (own := [("part", 1)]) (by decide +kernel)) (fun _ _ _ _ _ => (y_gn 1 sc_l_size.nd)) (fun _ _ _ _ _ => (x_call (f := T.l_size) (ok_l_size T n) hr (Nat.le_refl _) takes0 (aa_cons (ae_var (pv 1)) aa_nil) (alen_cons alen_nil))) (by decide))) aa_nil))))))
theorem sc_law : FnScope ["script", "bag", "turn", "formula", "low", "deep", "level", "wide", "some", "things", "thing", "found", "due", "told"] ["script"] (defScope s_law) := ⟨rfl, rfl, rfl, by decide +kernel, rfl, by decide +kernel, by decide +kernel⟩
theorem ok_law (T : Txt K w mg) : Ok P w K mg base 27 T.law F_law :=
  fn_ok T.law.F sc_law fun cdv A outer s H E hr =>
    (ass_cons (y_loc 1 sc_law.nd (f_call (f := T.l_bag) (ok_l_bag T) hr (show 1 ≤ 26 by omega) (takes_of rfl rfl rfl rfl) (aa_cons (ae_var (pv 0)) aa_nil) (alen_cons alen_nil))) (ass_cons (as_for (passes_of rfl) rfl (ai_range1 rfl T.n_range (aa_cons ae_int aa_nil)) (y_gn 2 sc_law.nd) (ass_cons (y_par 3 4 sc_law.nd (x_call (f := T.l_formula) (ok_l_formula T 24) hr (show 26 ≤ 26 by omega) (takes_of rfl rfl rfl rfl) (aa_cons (ae_var (pv 1)) (aa_cons (ae_frz (af_lst (aa_cons ae_str (aa_cons ae_str (aa_cons ae_str (aa_cons ae_str aa_nil)))))) (aa_cons ae_int aa_nil))) (alen_cons (alen_cons (alen_cons alen_nil)))) (x_sub (x_call (f := T.l_take) (ok_l_take T) hr (show 1 ≤ 26 by omega) (takes_of rfl rfl rfl rfl) (aa_cons (ae_var (pv 1)) (aa_cons ae_int aa_nil)) (alen_cons (alen_cons alen_nil))) ae_int)) (ass_cons (y_set 5 sc_law.nd (ae_var (pv 3))) (ass_cons (as_for (passes_of rfl) rfl (ai_range1 rfl T.n_range (aa_cons (x_call (f := T.l_take) (ok_l_take T) hr (show 1 ≤ 26 by omega) (takes_of rfl rfl rfl rfl) (aa_cons (ae_var (pv 1)) (aa_cons ae_int aa_nil)) (alen_cons (alen_cons alen_nil))) aa_nil)) (y_gn 6 sc_law.nd) (ass_one (y_set 5 sc_law.nd (x_call (f := T.l_some) (ok_l_some T) hr (show 2 ≤ 26 by omega) (takes_of rfl rfl rfl rfl) (aa_cons (ae_var (pv 1)) (aa_cons (ae_frz (af_lst (aa_cons (ae_tup (aa_cons ae_str (aa_cons (ae_tup (aa_cons (ae_var (pv 5)) aa_nil)) aa_nil))) (aa_cons (ae_tup (aa_cons ae_str (aa_cons (ae_tup (aa_cons (ae_tup (aa_cons ae_str (aa_cons ae_str aa_nil))) (aa_cons (ae_var (pv 5)) aa_nil))) aa_nil))) aa_nil)))) aa_nil)) (alen_cons (alen_cons alen_nil)))))) (ass_cons (y_set 7 sc_law.nd (ae_tup (aa_cons ae_str (aa_cons (x_repA (ae_tup (aa_cons (ae_tup (aa_cons ae_str (aa_cons ae_str aa_nil))) aa_nil)) (x_call (f := T.l_some) (ok_l_some T) hr (show 2 ≤ 26 by omega) (takes_of rfl rfl rfl rfl) (aa_cons (ae_var (pv 1)) (aa_cons (ae_frz (af_lst (aa_cons ae_int (aa_cons ae_int (aa_cons ae_int aa_nil))))) aa_nil)) (alen_cons (alen_cons alen_nil)))) aa_nil)))) (ass_cons (y_set 8 sc_law.nd (x_tuple T.n_tuple (aa_cons (ae_sl (x_call (f := T.l_mixed) (ok_l_mixed T) hr (show 2 ≤ 26 by omega) (takes_of rfl rfl rfl rfl) (aa_cons (ae_var (pv 1)) (aa_cons (ae_frz (af_lst (aa_cons ae_str (aa_cons ae_str (aa_cons ae_str (aa_cons ae_str aa_nil)))))) aa_nil)) (alen_cons (alen_cons alen_nil))) ao_none (ao_some (x_call (f := T.l_take) (ok_l_take T) hr (show 1 ≤ 26 by omega) (takes_of rfl rfl rfl rfl) (aa_cons (ae_var (pv 1)) (aa_cons ae_int aa_nil)) (alen_cons (alen_cons alen_nil))))) aa_nil))) (ass_cons (y_set 9 sc_law.nd (ae_frz (af_lst (aa_cons (ae_var (pv 3)) (aa_cons (ae_var (pv 5)) (aa_cons (ae_var (pv 7)) (aa_cons (ae_var (pv 8)) (aa_cons (x_tuple T.n_tuple (aa_cons (ae_frz (f_sortedA hr T.n_sorted (aa_cons (ae_var (pv 8)) aa_nil))) aa_nil)) (aa_cons (ae_tup (aa_cons ae_str (aa_cons ae_str aa_nil))) (aa_cons (ae_tup (aa_cons ae_str (aa_cons ae_str aa_nil))) (aa_cons (ae_tup (aa_cons ae_str (aa_cons ae_str aa_nil))) (aa_cons (ae_tup (aa_cons ae_str (aa_cons (ae_tup aa_nil) aa_nil))) (aa_cons (ae_tup (aa_cons ae_str (aa_cons (ae_frz (af_lst aa_nil)) aa_nil))) (aa_cons (ae_tup (aa_cons ae_str (aa_cons (ae_tup aa_nil) aa_nil))) aa_nil)))))))))))))) (ass_cons (y_set 9 sc_law.nd (x_add (ae_var (pv 9)) (ae_frz (af_lst (aa_cons ae_str (aa_cons ae_str (aa_cons ae_str (aa_cons ae_str (aa_cons ae_str (aa_cons ae_str (aa_cons ae_str (aa_cons ae_int (aa_cons (ae_var (pv 4)) (aa_cons ae_bl (aa_cons (ae_tup (aa_cons ae_str (aa_cons ae_str (aa_cons ae_int aa_nil)))) (aa_cons (x_call (f := T.l_odd) (ok_l_odd T) hr (show 3 ≤ 26 by omega) (takes_of rfl rfl rfl rfl) (aa_cons (ae_var (pv 1)) aa_nil) (alen_cons alen_nil)) aa_nil)))))))))))))))) (ass_cons (as_for (passes_of rfl) rfl (ai_itemsA (x_add (ae_var (pv 9)) (ae_frz (af_lst (aa_cons (x_call (f := T.l_bent) (ok_l_bent T 24) hr (show 26 ≤ 26 by omega) (takes_of rfl rfl rfl rfl) (aa_cons (ae_var (pv 1)) (aa_cons (ae_var (pv 5)) (aa_cons ae_int aa_nil))) (alen_cons (alen_cons (alen_cons alen_nil)))) (aa_cons (x_call (f := T.l_bent) (ok_l_bent T 24) hr (show 26 ≤ 26 by omega) (takes_of rfl rfl rfl rfl) (aa_cons (ae_var (pv 1)) (aa_cons (ae_var (pv 3)) (aa_cons ae_int aa_nil))) (alen_cons (alen_cons (alen_cons alen_nil)))) (aa_cons (x_call (f := T.l_bent) (ok_l_bent T 24) hr (show 26 ≤ 26 by omega) (takes_of rfl rfl rfl rfl) (aa_cons (ae_var (pv 1)) (aa_cons (ae_var (pv 8)) (aa_cons ae_int aa_nil))) (alen_cons (alen_cons (alen_cons alen_nil)))) aa_nil))))))) (y_gn 10 sc_law.nd) (ass_cons (y_set 11 sc_law.nd (ae_frz (af_lst (aa_cons (x_call (f := T.is_integer) (ok_is_integer T) hr (show 1 ≤ 26 by omega) (takes_of rfl rfl rfl rfl) (aa_cons (ae_var (pv 10)) aa_nil) (alen_cons alen_nil)) (aa_cons (x_call (f := T.is_within) (ok_is_within T) hr (show 2 ≤ 26 by omega) (takes_of rfl rfl rfl rfl) (aa_cons (ae_var (pv 10)) (aa_cons (ae_var (pv 4)) (aa_cons ae_int aa_nil))) (alen_cons (alen_cons (alen_cons alen_nil)))) (aa_cons (x_call (f := T.is_name) (ok_is_name T) hr (show 1 ≤ 26 by omega) (takes_of rfl rfl rfl rfl) (aa_cons (ae_var (pv 10)) aa_nil) (alen_cons alen_nil)) (aa_cons (x_call (f := T.is_formula) (ok_is_formula T) hr (show 26 ≤ 26 by omega) (takes_of rfl rfl rfl rfl) (aa_cons (ae_var (pv 10)) aa_nil) (alen_cons alen_nil)) (aa_cons (x_call (f := T.is_set) (ok_is_set T) hr (show 2 ≤ 26 by omega) (takes_of rfl rfl rfl rfl) (aa_cons (ae_var (pv 10)) aa_nil) (alen_cons alen_nil)) aa_nil)))))))) (ass_cons (y_set 12 sc_law.nd (ae_frz (af_lst (aa_cons (x_call (f := T.l_is_int) (ok_l_is_int T) hr (show 1 ≤ 26 by omega) (takes_of rfl rfl rfl rfl) (aa_cons (ae_var (pv 10)) aa_nil) (alen_cons alen_nil)) (aa_cons (ae_and (x_call (f := T.l_is_int) (ok_l_is_int T) hr (show 1 ≤ 26 by omega) (takes_of rfl rfl rfl rfl) (aa_cons (ae_var (pv 10)) aa_nil) (alen_cons alen_nil)) (ae_one (x_chain (c_le) (c_le) (ae_var (pv 4)) (ae_var (pv 10)) ae_int))) (aa_cons (x_call (f := T.l_is_name) (ok_l_is_name T) hr (show 1 ≤ 26 by omega) (takes_of rfl rfl rfl rfl) (aa_cons (ae_var (pv 10)) aa_nil) (alen_cons alen_nil)) (aa_cons (x_call (f := T.l_is_formula) (ok_l_is_formula T 24) hr (show 25 ≤ 26 by omega) (takes_of rfl rfl rfl rfl) (aa_cons (ae_var (pv 10)) (aa_cons ae_int aa_nil)) (alen_cons (alen_cons alen_nil))) aa_nil))))))) (ass_one (as_if (at_not (tt (x_call (f := T.l_alike) (ok_l_alike T) hr (show 1 ≤ 26 by omega) (takes_of rfl rfl rfl rfl) (aa_cons (ae_var (pv 11)) (aa_cons (x_add (ae_var (pv 12)) (ae_frz (af_lst (aa_cons (x_call (f := T.l_is_set) (ok_l_is_set T) hr (show 2 ≤ 26 by omega) (takes_of rfl rfl rfl rfl) (aa_cons (ae_var (pv 10)) aa_nil) (alen_cons alen_nil)) aa_nil)))) aa_nil)) (alen_cons (alen_cons alen_nil))))) (ass_one (as_ret ae_bl)) ass_nil))))) (ass_one (as_if (tt (x_call (f := T.l_is_formula) (ok_l_is_formula T 24) hr (show 25 ≤ 26 by omega) (takes_of rfl rfl rfl rfl) (aa_cons (ae_var (pv 5)) (aa_cons ae_int aa_nil)) (alen_cons (alen_cons alen_nil)))) (ass_cons (y_set 13 sc_law.nd (ae_frz (af_lst (aa_cons (x_call (f := T.names_in) (ok_names_in T) hr (show 1 ≤ 26 by omega) (takes_of rfl rfl rfl rfl) (aa_cons (ae_var (pv 5)) aa_nil) (alen_cons alen_nil)) (aa_cons (x_call (f := T.depth_of) (ok_depth_of T 24) hr (show 24 ≤ 26 by omega) (takes_of rfl rfl rfl rfl) (aa_cons (ae_var (pv 5)) aa_nil) (alen_cons alen_nil)) (aa_cons (x_call (f := T.size_of) (ok_size_of T 24) hr (show 24 ≤ 26 by omega) (takes_of rfl rfl rfl rfl) (aa_cons (ae_var (pv 5)) aa_nil) (alen_cons alen_nil)) aa_nil)))))) (ass_one (as_if (at_not (tt (x_call (f := T.l_alike) (ok_l_alike T) hr (show 1 ≤ 26 by omega) (takes_of rfl rfl rfl rfl) (aa_cons (ae_var (pv 13)) (aa_cons (ae_frz (af_lst (aa_cons (x_tuple T.n_tuple (aa_cons (x_call (f := T.l_names_in) (ok_l_names_in T 24) hr (show 24 ≤ 26 by omega) (takes_of rfl rfl rfl rfl) (aa_cons (ae_var (pv 5)) aa_nil) (alen_cons alen_nil)) aa_nil)) (aa_cons (x_call (f := T.l_depth) (ok_l_depth T 24) hr (show 24 ≤ 26 by omega) (takes_of rfl rfl rfl rfl) (aa_cons (ae_var (pv 5)) aa_nil) (alen_cons alen_nil)) (aa_cons (x_call (f := T.l_size) (ok_l_size T 24) hr (show 24 ≤ 26 by omega) (takes_of rfl rfl rfl rfl) (aa_cons (ae_var (pv 5)) aa_nil) (alen_cons alen_nil)) aa_nil))))) aa_nil)) (alen_cons (alen_cons alen_nil))))) (ass_one (as_ret ae_bl)) ass_nil))) ass_nil))))))))))) (ass_one (as_ret ae_bl))))
end
end Lk01
set_option Elab.async false
set_option linter.all false
set_option maxRecDepth 100000
set_option maxHeartbeats 400000
namespace Lk01
open PySem PySem.Spec PyProof.Rows L2 RA
local macro_rules
  | `(tactic| contradiction) => `(tactic| (first | decide +kernel | omega | assumption | exact sh_shaped (by assumption) | exact ⟨by omega, by omega⟩ | exact Or.inl (by decide) | exact Or.inr (by decide) | exact szl (by omega) | exact szl (by simp only [List.length_map, List.length_append, List.length_cons, List.length_nil]; omega)))
local macro_rules
  | `(tactic| infer_instance) => `(tactic| (first | (with_reducible (first | refine wp_C ?_ | refine wp_m2 ?_ | refine wp_m1 ?_ | refine wp_B ?_ | refine isB_ok ?_ | refine if_tt ?_ | refine if_ff ?_ | refine isV_v ?_ | refine isO_o ?_ | refine ws_seq ?_ | refine ws_nil ?_ | refine wp_nil ?_ | refine wp_cons ?_ | refine wp_call ?_ | refine wp_callF ?_ | refine ws_if ?_ | refine ws_ret ?_ | refine ws_set ?_ | refine toSl_d ?_ | refine wp_tup ?_ | refine wp_lst ?_ | refine wp_frz ?_ | refine isFr_l ?_ | refine isFr_k ?_ | refine wp_and ?_ | refine wp_or ?_ | refine wp_not ?_ | refine wp_andV ?_ | refine wp_orV ?_ | refine wp_notV ?_ | refine wp_if ?_ | refine wp_eqI ?_ | refine wp_neI ?_ | refine wp_neB ?_ | refine wp_eqB ?_ | refine wp_addI ?_ | refine wp_subI ?_ | refine wp_ltI ?_ | refine wp_leI ?_ | refine wp_gtI ?_ | refine wp_geI ?_ | refine wp_int ?_ | refine wp_opI ?_ | refine wp_neg ?_ | refine wp_chain ?_ | refine ws_expr ?_ | refine ws_retF ?_ | refine ws_own ?_ | refine ws_loc ?_ | refine ws_frz ?_ | refine ws_unp ?_ | refine ws_FF ?_ | refine ws_FV ?_ | refine ws_VF ?_ | refine ws_par ?_ | refine ws_store ?_ | refine ws_augS ?_ | refine ws_storeK ?_ | refine ws_forK ?_ | refine wp_oN ?_ | refine wp_oS ?_ | refine isI_ok ?_ | refine wp_sl ?_ | refine wp_mt ?_ | refine wp_mt0 ?_ | refine wp_src ?_ | refine wp_items ?_ | refine wp_itemsA ?_ | refine wp_enum ?_ | refine wp_zip ?_ | refine wp_yes ?_ | refine wp_kget ?_ | refine wp_enumL ?_ | refine wp_itemL ?_ | refine wp_itemT ?_)) | ((with_reducible apply wp_V); rfl) | ((with_reducible apply ws_aug); rfl) | ((with_reducible apply wp_isi); rfl) | ((with_reducible apply wp_O); rfl) | ((with_reducible apply wp_d); rfl) | ((with_reducible apply wp_l); rfl) | ((with_reducible apply wp_o); rfl) | ((with_reducible apply wp_f); rfl)  | (focus ((with_reducible refine wp_eqS ?_ ?_ ?_); rotate_left; contradiction; contradiction)) | (focus ((with_reducible refine wp_neS ?_ ?_ ?_); rotate_left; contradiction; contradiction)) | (focus ((with_reducible refine wp_mod ?_ ?_); rotate_left; contradiction)) | (focus ((with_reducible refine wp_fdiv ?_ ?_ ?_); rotate_left; contradiction; contradiction)) | (focus ((with_reducible refine wp_mul ?_ ?_); rotate_left; contradiction)) | (focus ((with_reducible refine wp_powI ?_ ?_); rotate_left; contradiction)) | (focus ((with_reducible refine wp_addL ?_ ?_); rotate_left; contradiction)) | (focus ((with_reducible refine wp_addT ?_ ?_); rotate_left; contradiction)) | (focus ((with_reducible refine wp_range1 ?_ ?_); rotate_left; contradiction)) | ((with_reducible apply isDs_ok); rfl; exact Nat.le_of_ble_eq_true rfl) | ((with_reducible apply isAt_ok); rfl) | ((with_reducible apply isMt_ok); rfl) | (focus ((with_reducible apply wp_app); rfl; rotate_left; first | contradiction | rotate_left)) | (focus ((with_reducible apply wp_extT); rfl; rotate_left; first | contradiction | rotate_left)) | (focus ((with_reducible apply wp_extA); rfl; rfl; rotate_left; first | contradiction | rotate_left)) | refine wp_ok ?_))
local macro_rules
  | `(tactic| simp_arith) => `(tactic| repeat infer_instance)
local macro_rules
  | `(tactic| simp_all_arith) => `(tactic| repeat (first | (fail_if_success (with_reducible refine ws_if ?_)); infer_instance))
local macro_rules
  | `(tactic| simp_arith [$a0:term]) => `(tactic| repeat (first | (with_reducible (first | refine wp_C ?_ | refine wp_m2 ?_ | refine wp_m1 ?_ | refine wp_B ?_ | refine isB_ok ?_ | refine if_tt ?_ | refine if_ff ?_ | refine isV_v ?_ | refine isO_o ?_ | refine ws_seq ?_ | refine ws_nil ?_ | refine wp_nil ?_ | refine wp_cons ?_ | refine wp_call ?_ | refine wp_callF ?_ | refine ws_if ?_ | refine ws_ret ?_ | refine ws_set ?_ | refine toSl_d ?_ | refine wp_tup ?_ | refine wp_lst ?_ | refine wp_frz ?_ | refine isFr_l ?_ | refine isFr_k ?_ | refine wp_and ?_ | refine wp_or ?_ | refine wp_not ?_ | refine wp_andV ?_ | refine wp_orV ?_ | refine wp_notV ?_ | refine wp_if ?_ | refine wp_eqI ?_ | refine wp_neI ?_ | refine wp_neB ?_ | refine wp_eqB ?_ | refine wp_addI ?_ | refine wp_subI ?_ | refine wp_ltI ?_ | refine wp_leI ?_ | refine wp_gtI ?_ | refine wp_geI ?_ | refine wp_int ?_ | refine wp_opI ?_ | refine wp_neg ?_ | refine wp_chain ?_ | refine ws_expr ?_ | refine ws_retF ?_ | refine ws_own ?_ | refine ws_loc ?_ | refine ws_frz ?_ | refine ws_unp ?_ | refine ws_FF ?_ | refine ws_FV ?_ | refine ws_VF ?_ | refine ws_par ?_ | refine ws_store ?_ | refine ws_augS ?_ | refine ws_storeK ?_ | refine ws_forK ?_ | refine wp_oN ?_ | refine wp_oS ?_ | refine isI_ok ?_ | refine wp_sl ?_ | refine wp_mt ?_ | refine wp_mt0 ?_ | refine wp_src ?_ | refine wp_items ?_ | refine wp_itemsA ?_ | refine wp_enum ?_ | refine wp_zip ?_ | refine wp_yes ?_ | refine wp_kget ?_ | refine wp_enumL ?_ | refine wp_itemL ?_ | refine wp_itemT ?_)) | ((with_reducible apply wp_is0 $a0); rfl) | infer_instance))
local macro_rules
  | `(tactic| simp_arith [$a0:term, $a1:term]) => `(tactic| repeat (first | (with_reducible (first | refine wp_C ?_ | refine wp_m2 ?_ | refine wp_m1 ?_ | refine wp_B ?_ | refine isB_ok ?_ | refine if_tt ?_ | refine if_ff ?_ | refine isV_v ?_ | refine isO_o ?_ | refine ws_seq ?_ | refine ws_nil ?_ | refine wp_nil ?_ | refine wp_cons ?_ | refine wp_call ?_ | refine wp_callF ?_ | refine ws_if ?_ | refine ws_ret ?_ | refine ws_set ?_ | refine toSl_d ?_ | refine wp_tup ?_ | refine wp_lst ?_ | refine wp_frz ?_ | refine isFr_l ?_ | refine isFr_k ?_ | refine wp_and ?_ | refine wp_or ?_ | refine wp_not ?_ | refine wp_andV ?_ | refine wp_orV ?_ | refine wp_notV ?_ | refine wp_if ?_ | refine wp_eqI ?_ | refine wp_neI ?_ | refine wp_neB ?_ | refine wp_eqB ?_ | refine wp_addI ?_ | refine wp_subI ?_ | refine wp_ltI ?_ | refine wp_leI ?_ | refine wp_gtI ?_ | refine wp_geI ?_ | refine wp_int ?_ | refine wp_opI ?_ | refine wp_neg ?_ | refine wp_chain ?_ | refine ws_expr ?_ | refine ws_retF ?_ | refine ws_own ?_ | refine ws_loc ?_ | refine ws_frz ?_ | refine ws_unp ?_ | refine ws_FF ?_ | refine ws_FV ?_ | refine ws_VF ?_ | refine ws_par ?_ | refine ws_store ?_ | refine ws_augS ?_ | refine ws_storeK ?_ | refine ws_forK ?_ | refine wp_oN ?_ | refine wp_oS ?_ | refine isI_ok ?_ | refine wp_sl ?_ | refine wp_mt ?_ | refine wp_mt0 ?_ | refine wp_src ?_ | refine wp_items ?_ | refine wp_itemsA ?_ | refine wp_enum ?_ | refine wp_zip ?_ | refine wp_yes ?_ | refine wp_kget ?_ | refine wp_enumL ?_ | refine wp_itemL ?_ | refine wp_itemT ?_)) | ((with_reducible apply wp_is0 $a0); rfl) | ((with_reducible apply wp_is0 $a1); rfl) | infer_instance))
local macro_rules
  | `(tactic| simp_arith [$a0:term, $a1:term, $a2:term]) => `(tactic| repeat (first | (with_reducible (first | refine wp_C ?_ | refine wp_m2 ?_ | refine wp_m1 ?_ | refine wp_B ?_ | refine isB_ok ?_ | refine if_tt ?_ | refine if_ff ?_ | refine isV_v ?_ | refine isO_o ?_ | refine ws_seq ?_ | refine ws_nil ?_ | refine wp_nil ?_ | refine wp_cons ?_ | refine wp_call ?_ | refine wp_callF ?_ | refine ws_if ?_ | refine ws_ret ?_ | refine ws_set ?_ | refine toSl_d ?_ | refine wp_tup ?_ | refine wp_lst ?_ | refine wp_frz ?_ | refine isFr_l ?_ | refine isFr_k ?_ | refine wp_and ?_ | refine wp_or ?_ | refine wp_not ?_ | refine wp_andV ?_ | refine wp_orV ?_ | refine wp_notV ?_ | refine wp_if ?_ | refine wp_eqI ?_ | refine wp_neI ?_ | refine wp_neB ?_ | refine wp_eqB ?_ | refine wp_addI ?_ | refine wp_subI ?_ | refine wp_ltI ?_ | refine wp_leI ?_ | refine wp_gtI ?_ | refine wp_geI ?_ | refine wp_int ?_ | refine wp_opI ?_ | refine wp_neg ?_ | refine wp_chain ?_ | refine ws_expr ?_ | refine ws_retF ?_ | refine ws_own ?_ | refine ws_loc ?_ | refine ws_frz ?_ | refine ws_unp ?_ | refine ws_FF ?_ | refine ws_FV ?_ | refine ws_VF ?_ | refine ws_par ?_ | refine ws_store ?_ | refine ws_augS ?_ | refine ws_storeK ?_ | refine ws_forK ?_ | refine wp_oN ?_ | refine wp_oS ?_ | refine isI_ok ?_ | refine wp_sl ?_ | refine wp_mt ?_ | refine wp_mt0 ?_ | refine wp_src ?_ | refine wp_items ?_ | refine wp_itemsA ?_ | refine wp_enum ?_ | refine wp_zip ?_ | refine wp_yes ?_ | refine wp_kget ?_ | refine wp_enumL ?_ | refine wp_itemL ?_ | refine wp_itemT ?_)) | ((with_reducible apply wp_is0 $a0); rfl) | ((with_reducible apply wp_is0 $a1); rfl) | ((with_reducible apply wp_is0 $a2); rfl) | infer_instance))
local macro_rules
  | `(tactic| simp_arith [$a0:term, $a1:term, $a2:term, $a3:term]) => `(tactic| repeat (first | (with_reducible (first | refine wp_C ?_ | refine wp_m2 ?_ | refine wp_m1 ?_ | refine wp_B ?_ | refine isB_ok ?_ | refine if_tt ?_ | refine if_ff ?_ | refine isV_v ?_ | refine isO_o ?_ | refine ws_seq ?_ | refine ws_nil ?_ | refine wp_nil ?_ | refine wp_cons ?_ | refine wp_call ?_ | refine wp_callF ?_ | refine ws_if ?_ | refine ws_ret ?_ | refine ws_set ?_ | refine toSl_d ?_ | refine wp_tup ?_ | refine wp_lst ?_ | refine wp_frz ?_ | refine isFr_l ?_ | refine isFr_k ?_ | refine wp_and ?_ | refine wp_or ?_ | refine wp_not ?_ | refine wp_andV ?_ | refine wp_orV ?_ | refine wp_notV ?_ | refine wp_if ?_ | refine wp_eqI ?_ | refine wp_neI ?_ | refine wp_neB ?_ | refine wp_eqB ?_ | refine wp_addI ?_ | refine wp_subI ?_ | refine wp_ltI ?_ | refine wp_leI ?_ | refine wp_gtI ?_ | refine wp_geI ?_ | refine wp_int ?_ | refine wp_opI ?_ | refine wp_neg ?_ | refine wp_chain ?_ | refine ws_expr ?_ | refine ws_retF ?_ | refine ws_own ?_ | refine ws_loc ?_ | refine ws_frz ?_ | refine ws_unp ?_ | refine ws_FF ?_ | refine ws_FV ?_ | refine ws_VF ?_ | refine ws_par ?_ | refine ws_store ?_ | refine ws_augS ?_ | refine ws_storeK ?_ | refine ws_forK ?_ | refine wp_oN ?_ | refine wp_oS ?_ | refine isI_ok ?_ | refine wp_sl ?_ | refine wp_mt ?_ | refine wp_mt0 ?_ | refine wp_src ?_ | refine wp_items ?_ | refine wp_itemsA ?_ | refine wp_enum ?_ | refine wp_zip ?_ | refine wp_yes ?_ | refine wp_kget ?_ | refine wp_enumL ?_ | refine wp_itemL ?_ | refine wp_itemT ?_)) | ((with_reducible apply wp_is0 $a0); rfl) | ((with_reducible apply wp_is0 $a1); rfl) | ((with_reducible apply wp_is0 $a2); rfl) | ((with_reducible apply wp_is0 $a3); rfl) | infer_instance))
local macro_rules
  | `(tactic| simp_arith [$a0:term, $a1:term, $a2:term, $a3:term, $a4:term]) => `(tactic| repeat (first | (with_reducible (first | refine wp_C ?_ | refine wp_m2 ?_ | refine wp_m1 ?_ | refine wp_B ?_ | refine isB_ok ?_ | refine if_tt ?_ | refine if_ff ?_ | refine isV_v ?_ | refine isO_o ?_ | refine ws_seq ?_ | refine ws_nil ?_ | refine wp_nil ?_ | refine wp_cons ?_ | refine wp_call ?_ | refine wp_callF ?_ | refine ws_if ?_ | refine ws_ret ?_ | refine ws_set ?_ | refine toSl_d ?_ | refine wp_tup ?_ | refine wp_lst ?_ | refine wp_frz ?_ | refine isFr_l ?_ | refine isFr_k ?_ | refine wp_and ?_ | refine wp_or ?_ | refine wp_not ?_ | refine wp_andV ?_ | refine wp_orV ?_ | refine wp_notV ?_ | refine wp_if ?_ | refine wp_eqI ?_ | refine wp_neI ?_ | refine wp_neB ?_ | refine wp_eqB ?_ | refine wp_addI ?_ | refine wp_subI ?_ | refine wp_ltI ?_ | refine wp_leI ?_ | refine wp_gtI ?_ | refine wp_geI ?_ | refine wp_int ?_ | refine wp_opI ?_ | refine wp_neg ?_ | refine wp_chain ?_ | refine ws_expr ?_ | refine ws_retF ?_ | refine ws_own ?_ | refine ws_loc ?_ | refine ws_frz ?_ | refine ws_unp ?_ | refine ws_FF ?_ | refine ws_FV ?_ | refine ws_VF ?_ | refine ws_par ?_ | refine ws_store ?_ | refine ws_augS ?_ | refine ws_storeK ?_ | refine ws_forK ?_ | refine wp_oN ?_ | refine wp_oS ?_ | refine isI_ok ?_ | refine wp_sl ?_ | refine wp_mt ?_ | refine wp_mt0 ?_ | refine wp_src ?_ | refine wp_items ?_ | refine wp_itemsA ?_ | refine wp_enum ?_ | refine wp_zip ?_ | refine wp_yes ?_ | refine wp_kget ?_ | refine wp_enumL ?_ | refine wp_itemL ?_ | refine wp_itemT ?_)) | ((with_reducible apply wp_is0 $a0); rfl) | ((with_reducible apply wp_is0 $a1); rfl) | ((with_reducible apply wp_is0 $a2); rfl) | ((with_reducible apply wp_is0 $a3); rfl) | ((with_reducible apply wp_is0 $a4); rfl) | infer_instance))
local macro_rules
  | `(tactic| simp_arith [$a0:term, $a1:term, $a2:term, $a3:term, $a4:term, $a5:term]) => `(tactic| repeat (first | (with_reducible (first | refine wp_C ?_ | refine wp_m2 ?_ | refine wp_m1 ?_ | refine wp_B ?_ | refine isB_ok ?_ | refine if_tt ?_ | refine if_ff ?_ | refine isV_v ?_ | refine isO_o ?_ | refine ws_seq ?_ | refine ws_nil ?_ | refine wp_nil ?_ | refine wp_cons ?_ | refine wp_call ?_ | refine wp_callF ?_ | refine ws_if ?_ | refine ws_ret ?_ | refine ws_set ?_ | refine toSl_d ?_ | refine wp_tup ?_ | refine wp_lst ?_ | refine wp_frz ?_ | refine isFr_l ?_ | refine isFr_k ?_ | refine wp_and ?_ | refine wp_or ?_ | refine wp_not ?_ | refine wp_andV ?_ | refine wp_orV ?_ | refine wp_notV ?_ | refine wp_if ?_ | refine wp_eqI ?_ | refine wp_neI ?_ | refine wp_neB ?_ | refine wp_eqB ?_ | refine wp_addI ?_ | refine wp_subI ?_ | refine wp_ltI ?_ | refine wp_leI ?_ | refine wp_gtI ?_ | refine wp_geI ?_ | refine wp_int ?_ | refine wp_opI ?_ | refine wp_neg ?_ | refine wp_chain ?_ | refine ws_expr ?_ | refine ws_retF ?_ | refine ws_own ?_ | refine ws_loc ?_ | refine ws_frz ?_ | refine ws_unp ?_ | refine ws_FF ?_ | refine ws_FV ?_ | refine ws_VF ?_ | refine ws_par ?_ | refine ws_store ?_ | refine ws_augS ?_ | refine ws_storeK ?_ | refine ws_forK ?_ | refine wp_oN ?_ | refine wp_oS ?_ | refine isI_ok ?_ | refine wp_sl ?_ | refine wp_mt ?_ | refine wp_mt0 ?_ | refine wp_src ?_ | refine wp_items ?_ | refine wp_itemsA ?_ | refine wp_enum ?_ | refine wp_zip ?_ | refine wp_yes ?_ | refine wp_kget ?_ | refine wp_enumL ?_ | refine wp_itemL ?_ | refine wp_itemT ?_)) | ((with_reducible apply wp_is0 $a0); rfl) | ((with_reducible apply wp_is0 $a1); rfl) | ((with_reducible apply wp_is0 $a2); rfl) | ((with_reducible apply wp_is0 $a3); rfl) | ((with_reducible apply wp_is0 $a4); rfl) | ((with_reducible apply wp_is0 $a5); rfl) | infer_instance))
local macro_rules
  | `(tactic| simp_arith [$a0:term, $a1:term, $a2:term, $a3:term, $a4:term, $a5:term, $a6:term]) => `(tactic| repeat (first | (with_reducible (first | refine wp_C ?_ | refine wp_m2 ?_ | refine wp_m1 ?_ | refine wp_B ?_ | refine isB_ok ?_ | refine if_tt ?_ | refine if_ff ?_ | refine isV_v ?_ | refine isO_o ?_ | refine ws_seq ?_ | refine ws_nil ?_ | refine wp_nil ?_ | refine wp_cons ?_ | refine wp_call ?_ | refine wp_callF ?_ | refine ws_if ?_ | refine ws_ret ?_ | refine ws_set ?_ | refine toSl_d ?_ | refine wp_tup ?_ | refine wp_lst ?_ | refine wp_frz ?_ | refine isFr_l ?_ | refine isFr_k ?_ | refine wp_and ?_ | refine wp_or ?_ | refine wp_not ?_ | refine wp_andV ?_ | refine wp_orV ?_ | refine wp_notV ?_ | refine wp_if ?_ | refine wp_eqI ?_ | refine wp_neI ?_ | refine wp_neB ?_ | refine wp_eqB ?_ | refine wp_addI ?_ | refine wp_subI ?_ | refine wp_ltI ?_ | refine wp_leI ?_ | refine wp_gtI ?_ | refine wp_geI ?_ | refine wp_int ?_ | refine wp_opI ?_ | refine wp_neg ?_ | refine wp_chain ?_ | refine ws_expr ?_ | refine ws_retF ?_ | refine ws_own ?_ | refine ws_loc ?_ | refine ws_frz ?_ | refine ws_unp ?_ | refine ws_FF ?_ | refine ws_FV ?_ | refine ws_VF ?_ | refine ws_par ?_ | refine ws_store ?_ | refine ws_augS ?_ | refine ws_storeK ?_ | refine ws_forK ?_ | refine wp_oN ?_ | refine wp_oS ?_ | refine isI_ok ?_ | refine wp_sl ?_ | refine wp_mt ?_ | refine wp_mt0 ?_ | refine wp_src ?_ | refine wp_items ?_ | refine wp_itemsA ?_ | refine wp_enum ?_ | refine wp_zip ?_ | refine wp_yes ?_ | refine wp_kget ?_ | refine wp_enumL ?_ | refine wp_itemL ?_ | refine wp_itemT ?_)) | ((with_reducible apply wp_is0 $a0); rfl) | ((with_reducible apply wp_is0 $a1); rfl) | ((with_reducible apply wp_is0 $a2); rfl) | ((with_reducible apply wp_is0 $a3); rfl) | ((with_reducible apply wp_is0 $a4); rfl) | ((with_reducible apply wp_is0 $a5); rfl) | ((with_reducible apply wp_is0 $a6); rfl) | infer_instance))
local macro_rules
  | `(tactic| simp_arith [$a0:term, $a1:term, $a2:term, $a3:term, $a4:term, $a5:term, $a6:term, $a7:term]) => `(tactic| repeat (first | (with_reducible (first | refine wp_C ?_ | refine wp_m2 ?_ | refine wp_m1 ?_ | refine wp_B ?_ | refine isB_ok ?_ | refine if_tt ?_ | refine if_ff ?_ | refine isV_v ?_ | refine isO_o ?_ | refine ws_seq ?_ | refine ws_nil ?_ | refine wp_nil ?_ | refine wp_cons ?_ | refine wp_call ?_ | refine wp_callF ?_ | refine ws_if ?_ | refine ws_ret ?_ | refine ws_set ?_ | refine toSl_d ?_ | refine wp_tup ?_ | refine wp_lst ?_ | refine wp_frz ?_ | refine isFr_l ?_ | refine isFr_k ?_ | refine wp_and ?_ | refine wp_or ?_ | refine wp_not ?_ | refine wp_andV ?_ | refine wp_orV ?_ | refine wp_notV ?_ | refine wp_if ?_ | refine wp_eqI ?_ | refine wp_neI ?_ | refine wp_neB ?_ | refine wp_eqB ?_ | refine wp_addI ?_ | refine wp_subI ?_ | refine wp_ltI ?_ | refine wp_leI ?_ | refine wp_gtI ?_ | refine wp_geI ?_ | refine wp_int ?_ | refine wp_opI ?_ | refine wp_neg ?_ | refine wp_chain ?_ | refine ws_expr ?_ | refine ws_retF ?_ | refine ws_own ?_ | refine ws_loc ?_ | refine ws_frz ?_ | refine ws_unp ?_ | refine ws_FF ?_ | refine ws_FV ?_ | refine ws_VF ?_ | refine ws_par ?_ | refine ws_store ?_ | refine ws_augS ?_ | refine ws_storeK ?_ | refine ws_forK ?_ | refine wp_oN ?_ | refine wp_oS ?_ | refine isI_ok ?_ | refine wp_sl ?_ | refine wp_mt ?_ | refine wp_mt0 ?_ | refine wp_src ?_ | refine wp_items ?_ | refine wp_itemsA ?_ | refine wp_enum ?_ | refine wp_zip ?_ | refine wp_yes ?_ | refine wp_kget ?_ | refine wp_enumL ?_ | refine wp_itemL ?_ | refine wp_itemT ?_)) | ((with_reducible apply wp_is0 $a0); rfl) | ((with_reducible apply wp_is0 $a1); rfl) | ((with_reducible apply wp_is0 $a2); rfl) | ((with_reducible apply wp_is0 $a3); rfl) | ((with_reducible apply wp_is0 $a4); rfl) | ((with_reducible apply wp_is0 $a5); rfl) | ((with_reducible apply wp_is0 $a6); rfl) | ((with_reducible apply wp_is0 $a7); rfl) | infer_instance))
local macro_rules
  | `(tactic| array_get_dec) => `(tactic| (first | (with_reducible (first | apply pv_C | apply pv_kt | apply pl_nil | apply tb_yes | apply pi_N | apply po_dnew | apply pv_m2 | apply pv_m1 | apply pl_cons | apply pv_call | apply po_callF | apply pv_frzL | apply tb_B | apply tb_not | apply pv_notV | apply pi_S | apply pv_sl | apply pj_itemsA | apply pj_items | apply pj_enum | apply pj_src | apply pj_zip | apply pv_tup | apply po_lst | apply a_eqI | apply a_neI | apply a_eqB | apply a_neB | apply a_addI | apply a_subI | apply a_leI | apply a_ltI | apply a_gtI | apply a_geI | apply a_ltS | apply a_lenL | apply a_lenT | apply a_tuple | apply a_tupT | apply a_listL | apply a_listT | apply a_intB | apply a_intI | apply a_slL | apply a_slT | apply a_isN | apply a_notN | apply aj_lst | apply aj_tup | apply aj_kt | apply aj_frz | apply aj_enumL | apply a_all | apply a_any | apply tb_and | apply tb_or | apply pv_andV | apply pv_orV | apply pv_chain | apply pv_ifD)) | ((with_reducible apply pv_d); rfl) | ((with_reducible apply pv_o); rfl) | ((with_reducible apply pv_f); rfl) | ((with_reducible apply pv_l); rfl) | ((with_reducible apply a_isi); first | rfl | assumption) | (focus ((with_reducible apply a_eqS); contradiction; contradiction)) | (focus ((with_reducible apply a_neS); contradiction; contradiction)) | (focus ((with_reducible apply a_addL); contradiction)) | (focus ((with_reducible apply a_addT); contradiction)) | (focus ((with_reducible apply a_lenS); contradiction)) | (focus ((with_reducible apply aj_str); contradiction)) | (focus ((with_reducible apply aj_range1); contradiction)) | (focus ((with_reducible apply aj_zipT); contradiction)) | (focus ((with_reducible apply aj_zipL); contradiction))))
local macro_rules
  | `(tactic| simp_arith!) => `(tactic| repeat (first | array_get_dec | exact tb_absF rfl | exact tb_absT rfl | exact pv_absF rfl | exact pv_absT rfl | exact a2_absT rfl | intro _ | exact (false : Bool) | ((with_reducible apply a_ix); rfl) | ((with_reducible apply a_ixL); rfl) | (exact Nat.le_of_ble_eq_true rfl) | exact rfl))
local macro_rules
  | `(tactic| simp_arith! [$a0:term]) => `(tactic| repeat (first | array_get_dec | ((with_reducible apply a_is0 $a0); rfl) | ((with_reducible apply a2_id); exact $a0) | ((with_reducible apply ao_id); exact $a0) | (with_reducible exact $a0) | exact tb_absF rfl | exact tb_absT rfl | exact pv_absF rfl | exact pv_absT rfl | exact a2_absT rfl | intro _ | exact (false : Bool) | ((with_reducible apply a_ix); rfl) | ((with_reducible apply a_ixL); rfl) | (exact Nat.le_of_ble_eq_true rfl) | exact rfl))
local macro_rules
  | `(tactic| simp_arith! [$a0:term, $a1:term]) => `(tactic| repeat (first | array_get_dec | ((with_reducible apply a_is0 $a0); rfl) | ((with_reducible apply a2_id); exact $a0) | ((with_reducible apply ao_id); exact $a0) | (with_reducible exact $a0) | ((with_reducible apply a_is0 $a1); rfl) | ((with_reducible apply a2_id); exact $a1) | ((with_reducible apply ao_id); exact $a1) | (with_reducible exact $a1) | exact tb_absF rfl | exact tb_absT rfl | exact pv_absF rfl | exact pv_absT rfl | exact a2_absT rfl | intro _ | exact (false : Bool) | ((with_reducible apply a_ix); rfl) | ((with_reducible apply a_ixL); rfl) | (exact Nat.le_of_ble_eq_true rfl) | exact rfl))
local macro_rules
  | `(tactic| simp_arith! [$a0:term, $a1:term, $a2:term]) => `(tactic| repeat (first | array_get_dec | ((with_reducible apply a_is0 $a0); rfl) | ((with_reducible apply a2_id); exact $a0) | ((with_reducible apply ao_id); exact $a0) | (with_reducible exact $a0) | ((with_reducible apply a_is0 $a1); rfl) | ((with_reducible apply a2_id); exact $a1) | ((with_reducible apply ao_id); exact $a1) | (with_reducible exact $a1) | ((with_reducible apply a_is0 $a2); rfl) | ((with_reducible apply a2_id); exact $a2) | ((with_reducible apply ao_id); exact $a2) | (with_reducible exact $a2) | exact tb_absF rfl | exact tb_absT rfl | exact pv_absF rfl | exact pv_absT rfl | exact a2_absT rfl | intro _ | exact (false : Bool) | ((with_reducible apply a_ix); rfl) | ((with_reducible apply a_ixL); rfl) | (exact Nat.le_of_ble_eq_true rfl) | exact rfl))
local macro_rules
  | `(tactic| simp_arith! [$a0:term, $a1:term, $a2:term, $a3:term]) => `(tactic| repeat (first | array_get_dec | ((with_reducible apply a_is0 $a0); rfl) | ((with_reducible apply a2_id); exact $a0) | ((with_reducible apply ao_id); exact $a0) | (with_reducible exact $a0) | ((with_reducible apply a_is0 $a1); rfl) | ((with_reducible apply a2_id); exact $a1) | ((with_reducible apply ao_id); exact $a1) | (with_reducible exact $a1) | ((with_reducible apply a_is0 $a2); rfl) | ((with_reducible apply a2_id); exact $a2) | ((with_reducible apply ao_id); exact $a2) | (with_reducible exact $a2) | ((with_reducible apply a_is0 $a3); rfl) | ((with_reducible apply a2_id); exact $a3) | ((with_reducible apply ao_id); exact $a3) | (with_reducible exact $a3) | exact tb_absF rfl | exact tb_absT rfl | exact pv_absF rfl | exact pv_absT rfl | exact a2_absT rfl | intro _ | exact (false : Bool) | ((with_reducible apply a_ix); rfl) | ((with_reducible apply a_ixL); rfl) | (exact Nat.le_of_ble_eq_true rfl) | exact rfl))
local macro_rules
  | `(tactic| simp_arith! [$a0:term, $a1:term, $a2:term, $a3:term, $a4:term]) => `(tactic| repeat (first | array_get_dec | ((with_reducible apply a_is0 $a0); rfl) | ((with_reducible apply a2_id); exact $a0) | ((with_reducible apply ao_id); exact $a0) | (with_reducible exact $a0) | ((with_reducible apply a_is0 $a1); rfl) | ((with_reducible apply a2_id); exact $a1) | ((with_reducible apply ao_id); exact $a1) | (with_reducible exact $a1) | ((with_reducible apply a_is0 $a2); rfl) | ((with_reducible apply a2_id); exact $a2) | ((with_reducible apply ao_id); exact $a2) | (with_reducible exact $a2) | ((with_reducible apply a_is0 $a3); rfl) | ((with_reducible apply a2_id); exact $a3) | ((with_reducible apply ao_id); exact $a3) | (with_reducible exact $a3) | ((with_reducible apply a_is0 $a4); rfl) | ((with_reducible apply a2_id); exact $a4) | ((with_reducible apply ao_id); exact $a4) | (with_reducible exact $a4) | exact tb_absF rfl | exact tb_absT rfl | exact pv_absF rfl | exact pv_absT rfl | exact a2_absT rfl | intro _ | exact (false : Bool) | ((with_reducible apply a_ix); rfl) | ((with_reducible apply a_ixL); rfl) | (exact Nat.le_of_ble_eq_true rfl) | exact rfl))
local macro_rules
  | `(tactic| simp_arith! [$a0:term, $a1:term, $a2:term, $a3:term, $a4:term, $a5:term]) => `(tactic| repeat (first | array_get_dec | ((with_reducible apply a_is0 $a0); rfl) | ((with_reducible apply a2_id); exact $a0) | ((with_reducible apply ao_id); exact $a0) | (with_reducible exact $a0) | ((with_reducible apply a_is0 $a1); rfl) | ((with_reducible apply a2_id); exact $a1) | ((with_reducible apply ao_id); exact $a1) | (with_reducible exact $a1) | ((with_reducible apply a_is0 $a2); rfl) | ((with_reducible apply a2_id); exact $a2) | ((with_reducible apply ao_id); exact $a2) | (with_reducible exact $a2) | ((with_reducible apply a_is0 $a3); rfl) | ((with_reducible apply a2_id); exact $a3) | ((with_reducible apply ao_id); exact $a3) | (with_reducible exact $a3) | ((with_reducible apply a_is0 $a4); rfl) | ((with_reducible apply a2_id); exact $a4) | ((with_reducible apply ao_id); exact $a4) | (with_reducible exact $a4) | ((with_reducible apply a_is0 $a5); rfl) | ((with_reducible apply a2_id); exact $a5) | ((with_reducible apply ao_id); exact $a5) | (with_reducible exact $a5) | exact tb_absF rfl | exact tb_absT rfl | exact pv_absF rfl | exact pv_absT rfl | exact a2_absT rfl | intro _ | exact (false : Bool) | ((with_reducible apply a_ix); rfl) | ((with_reducible apply a_ixL); rfl) | (exact Nat.le_of_ble_eq_true rfl) | exact rfl))
local macro_rules
  | `(tactic| simp_arith! [$a0:term, $a1:term, $a2:term, $a3:term, $a4:term, $a5:term, $a6:term]) => `(tactic| repeat (first | array_get_dec | ((with_reducible apply a_is0 $a0); rfl) | ((with_reducible apply a2_id); exact $a0) | ((with_reducible apply ao_id); exact $a0) | (with_reducible exact $a0) | ((with_reducible apply a_is0 $a1); rfl) | ((with_reducible apply a2_id); exact $a1) | ((with_reducible apply ao_id); exact $a1) | (with_reducible exact $a1) | ((with_reducible apply a_is0 $a2); rfl) | ((with_reducible apply a2_id); exact $a2) | ((with_reducible apply ao_id); exact $a2) | (with_reducible exact $a2) | ((with_reducible apply a_is0 $a3); rfl) | ((with_reducible apply a2_id); exact $a3) | ((with_reducible apply ao_id); exact $a3) | (with_reducible exact $a3) | ((with_reducible apply a_is0 $a4); rfl) | ((with_reducible apply a2_id); exact $a4) | ((with_reducible apply ao_id); exact $a4) | (with_reducible exact $a4) | ((with_reducible apply a_is0 $a5); rfl) | ((with_reducible apply a2_id); exact $a5) | ((with_reducible apply ao_id); exact $a5) | (with_reducible exact $a5) | ((with_reducible apply a_is0 $a6); rfl) | ((with_reducible apply a2_id); exact $a6) | ((with_reducible apply ao_id); exact $a6) | (with_reducible exact $a6) | exact tb_absF rfl | exact tb_absT rfl | exact pv_absF rfl | exact pv_absT rfl | exact a2_absT rfl | intro _ | exact (false : Bool) | ((with_reducible apply a_ix); rfl) | ((with_reducible apply a_ixL); rfl) | (exact Nat.le_of_ble_eq_true rfl) | exact rfl))
local macro_rules
  | `(tactic| simp_arith! [$a0:term, $a1:term, $a2:term, $a3:term, $a4:term, $a5:term, $a6:term, $a7:term]) => `(tactic| repeat (first | array_get_dec | ((with_reducible apply a_is0 $a0); rfl) | ((with_reducible apply a2_id); exact $a0) | ((with_reducible apply ao_id); exact $a0) | (with_reducible exact $a0) | ((with_reducible apply a_is0 $a1); rfl) | ((with_reducible apply a2_id); exact $a1) | ((with_reducible apply ao_id); exact $a1) | (with_reducible exact $a1) | ((with_reducible apply a_is0 $a2); rfl) | ((with_reducible apply a2_id); exact $a2) | ((with_reducible apply ao_id); exact $a2) | (with_reducible exact $a2) | ((with_reducible apply a_is0 $a3); rfl) | ((with_reducible apply a2_id); exact $a3) | ((with_reducible apply ao_id); exact $a3) | (with_reducible exact $a3) | ((with_reducible apply a_is0 $a4); rfl) | ((with_reducible apply a2_id); exact $a4) | ((with_reducible apply ao_id); exact $a4) | (with_reducible exact $a4) | ((with_reducible apply a_is0 $a5); rfl) | ((with_reducible apply a2_id); exact $a5) | ((with_reducible apply ao_id); exact $a5) | (with_reducible exact $a5) | ((with_reducible apply a_is0 $a6); rfl) | ((with_reducible apply a2_id); exact $a6) | ((with_reducible apply ao_id); exact $a6) | (with_reducible exact $a6) | ((with_reducible apply a_is0 $a7); rfl) | ((with_reducible apply a2_id); exact $a7) | ((with_reducible apply ao_id); exact $a7) | (with_reducible exact $a7) | exact tb_absF rfl | exact tb_absT rfl | exact pv_absF rfl | exact pv_absT rfl | exact a2_absT rfl | intro _ | exact (false : Bool) | ((with_reducible apply a_ix); rfl) | ((with_reducible apply a_ixL); rfl) | (exact Nat.le_of_ble_eq_true rfl) | exact rfl))
theorem take_ok {o : Ob} {m : Int} (hb : Bag o) (h0 : 0 < m) (h1 : m < 1073741824) : wf (F_l_take [.loc 0, .d (.int m)] [o]) fun r sto => ∃ v o', r = .v (.d (.int v)) ∧ sto = [o'] ∧ 0 ≤ v ∧ v < m ∧ Bag o' := by
  obtain ⟨a, b, c, cs, rfl, ha, hbb, hc, hcs, hl⟩ := hb
  unfold F_l_take
  refine wf_fun ?_
  refine ws_cut (fun s => ∃ x y a b c, s = ⟨[.loc 0, .d (.int m), x, y, .un, .un, .un], [bagO a b c cs]⟩ ∧ 0 ≤ a ∧ 0 ≤ b ∧ 0 ≤ c) ?_ ?_
  · simp_arith
    refine if_t (fun h => ?_) fun h => ?_
    · simp_arith
      refine wp_addL ?_ ?_
      · obtain ⟨k, hk, e, _⟩ := cell_at hcs c
        simp_arith
        refine wp_ixL e ?_
        simp_arith
        refine if_t (fun h => ?_) fun h => ?_
        · simp_arith
          exact ⟨_, _, _, _, _, rfl, hk, Int.emod_nonneg _ (by decide), by omega⟩
        · simp_arith
          exact ⟨_, _, _, _, _, rfl, ha, Int.emod_nonneg _ (by decide), by omega⟩
      · obtain ⟨k, hk, _, e⟩ := cell_at hcs c
        refine Nat.le_trans (Nat.add_le_add_right e _) ?_
        exact Nat.le_trans (Nat.add_le_add_right hl _) (by decide)
    · simp_arith
      exact ⟨_, _, _, _, _, rfl, ha, hbb, hc⟩
  · rintro s ⟨x, y, a, b, c, rfl, ha, hb, hc⟩
    simp_arith
    refine if_t (fun h => ?_) fun h => ?_
    · simp_arith
      exact ⟨_, _, rfl, rfl, Int.emod_nonneg _ (by omega), Int.emod_lt_of_pos _ h0, _, _, _, _, rfl, Int.ediv_nonneg ha (by omega), hb, hc, hcs, hl⟩
    · simp_arith
      exact ⟨_, _, rfl, rfl, Int.emod_nonneg _ (by omega), Int.emod_lt_of_pos _ h0, _, _, _, _, rfl, ha, hb, hc, hcs, hl⟩
theorem some_ok {o : Ob} {ds : List D} (hb : Bag o) (h0 : ds ≠ []) (h1 : ds.length < 1000) : wf (F_l_some [.loc 0, .d (.list ds)] [o]) fun r sto => ∃ d o', r = .v (.d d) ∧ sto = [o'] ∧ d ∈ ds ∧ Bag o' := by
  unfold F_l_some
  refine wf_fun ?_
  simp_arith
  have hl : 0 < ds.length := List.length_pos_iff.mpr h0
  refine wf_mono (take_ok hb (by omega) (by omega)) ?_
  rintro _ _ ⟨v, o', rfl, rfl, v0, v1, hb'⟩
  obtain ⟨d, e, hm, _⟩ := atI_nat' (xs := ds) v0 (by omega)
  refine wp_ixL e ?_
  exact ⟨d, o', rfl, rfl, hm, hb'⟩
theorem mixed_ok {o : Ob} {ds : List D} (hb : Bag o) (h1 : ds.length < 1000) (hs : ∀ d ∈ ds, Sh d) : wf (F_l_mixed [.loc 0, .d (.list ds)] [o]) fun r sto => ∃ es o', r = .v (.d (.list es)) ∧ sto = [o'] ∧ (∀ d ∈ es, d ∈ ds) ∧ es.length ≤ ds.length ∧ Bag o' := by
  unfold F_l_mixed
  refine wf_fun ?_
  simp_arith
  refine ws_while (fun n s => ∃ left found o, s = ⟨[.loc 0, .d (.list ds), .own (.lst left), .own (.lst found)], [o]⟩ ∧ left.length = n ∧ found.length + n = ds.length ∧ (∀ d ∈ left, d ∈ ds) ∧ (∀ d ∈ found, d ∈ ds) ∧ Bag o) ?_ wFuel ds.length _ (by show ds.length < 1000000; omega) ⟨ds, [], o, rfl, rfl, by simp, fun d h => h, fun d h => by simp at h, hb⟩
  rintro n s ⟨left, found, o, rfl, hn, hf, hl, hm, hb⟩
  simp_arith
  refine wp_neD (d := .list left) (e := .list []) rfl rfl ?_ (shl_shaped fun d h => hs d (hl d h)) (by decide)
  rw [eqv_nil]
  simp_arith
  refine if_t (fun h => ?_) fun h => ?_
  · cases n with
    | zero => rw [List.length_eq_zero_iff.mp hn] at h; cases h
    | succ k =>
      refine ⟨k, rfl, ?_⟩
      simp_arith
      refine wf_mono (take_ok hb (by show (0 : Int) < (left.length : Int); omega) (by show (left.length : Int) < _; omega)) ?_
      rintro _ _ ⟨v, o', rfl, rfl, v0, v1, hb'⟩
      have v1' : v.toNat < left.length := by
        have : v < (left.length : Int) := v1
        omega
      obtain ⟨d, e, hm', ed⟩ := atI_nat' (xs := left) v0 v1
      simp_arith
      refine wp_popAt (ds := left) rfl ⟨v0, by omega⟩ ed ?_
      simp_arith
      refine ⟨_, _, _, rfl, ?_, ?_, fun d h => hl d (List.mem_of_mem_eraseIdx h), fun x hx => ?_, hb'⟩
      · rw [List.length_eraseIdx, if_pos v1']; omega
      · simp only [List.length_append, List.length_singleton]; omega
      · rcases List.mem_append.mp hx with hx | hx
        · exact hm x hx
        · rw [List.mem_singleton.mp hx]; exact hl d hm'
  · simp_arith
    exact ⟨found, o, rfl, rfl, hm, by omega, hb⟩
theorem bag_ok (ns : List Int) (h : ns.length ≤ 63) : wf (F_l_bag [.frz (ns.map .int)] []) fun r sto => ∃ o, r = .o o ∧ sto = [] ∧ Bag o := by
  unfold F_l_bag
  refine wf_fun ?_
  simp_arith
  refine wp_compA (cutL ns none (some 63)) .int (fun _ => true) (fun i => .int (if i < 0 then -i else i)) ?_
  simp_arith
  refine ⟨fun _ => trivial, cutL_map _ _ _ _, fun i hi => ⟨_, rfl, ?_⟩, ?_⟩
  · simp_arith
    refine ⟨rfl, ?_⟩
    simp_arith
    exact ⟨rfl, rfl⟩
  · simp_arith
    refine ⟨_, rfl, rfl, 0, 1234567891, 0, (cutL ns none (some 63)).map fun i => if i < 0 then -i else i, ?_, by decide, by decide, by decide, fun x hx => ?_, ?_⟩
    · rw [filt, bagO, List.map_map]
      rfl
    · obtain ⟨i, _, rfl⟩ := List.mem_map.mp hx
      split <;> omega
    · rw [List.length_map]
      exact Nat.le_trans (cutL_len _ _ _) h
end Lk01
set_option Elab.async false
set_option linter.all false
set_option maxRecDepth 100000
set_option maxHeartbeats 400000
namespace Lk01
open PySem PySem.Spec PyProof.Rows L2 RA
local macro_rules
  | `(tactic| contradiction) => `(tactic| (first | decide +kernel | omega | assumption | exact sh_shaped (by assumption) | exact ⟨by omega, by omega⟩ | exact Or.inl (by decide) | exact Or.inr (by decide) | exact szl (by omega) | exact szl (by simp only [List.length_map, List.length_append, List.length_cons, List.length_nil]; omega)))
local macro_rules
  | `(tactic| infer_instance) => `(tactic| (first | (with_reducible (first | refine wp_C ?_ | refine wp_m2 ?_ | refine wp_m1 ?_ | refine wp_B ?_ | refine isB_ok ?_ | refine if_tt ?_ | refine if_ff ?_ | refine isV_v ?_ | refine isO_o ?_ | refine ws_seq ?_ | refine ws_nil ?_ | refine wp_nil ?_ | refine wp_cons ?_ | refine wp_call ?_ | refine wp_callF ?_ | refine ws_if ?_ | refine ws_ret ?_ | refine ws_set ?_ | refine toSl_d ?_ | refine wp_tup ?_ | refine wp_lst ?_ | refine wp_frz ?_ | refine isFr_l ?_ | refine isFr_k ?_ | refine wp_and ?_ | refine wp_or ?_ | refine wp_not ?_ | refine wp_andV ?_ | refine wp_orV ?_ | refine wp_notV ?_ | refine wp_if ?_ | refine wp_eqI ?_ | refine wp_neI ?_ | refine wp_neB ?_ | refine wp_eqB ?_ | refine wp_addI ?_ | refine wp_subI ?_ | refine wp_ltI ?_ | refine wp_leI ?_ | refine wp_gtI ?_ | refine wp_geI ?_ | refine wp_int ?_ | refine wp_opI ?_ | refine wp_neg ?_ | refine wp_chain ?_ | refine ws_expr ?_ | refine ws_retF ?_ | refine ws_own ?_ | refine ws_loc ?_ | refine ws_frz ?_ | refine ws_unp ?_ | refine ws_FF ?_ | refine ws_FV ?_ | refine ws_VF ?_ | refine ws_par ?_ | refine ws_store ?_ | refine ws_augS ?_ | refine ws_storeK ?_ | refine ws_forK ?_ | refine wp_oN ?_ | refine wp_oS ?_ | refine isI_ok ?_ | refine wp_sl ?_ | refine wp_mt ?_ | refine wp_mt0 ?_ | refine wp_src ?_ | refine wp_items ?_ | refine wp_itemsA ?_ | refine wp_enum ?_ | refine wp_zip ?_ | refine wp_yes ?_ | refine wp_kget ?_ | refine wp_enumL ?_ | refine wp_itemL ?_ | refine wp_itemT ?_)) | ((with_reducible apply wp_V); rfl) | ((with_reducible apply ws_aug); rfl) | ((with_reducible apply wp_isi); rfl) | ((with_reducible apply wp_O); rfl) | ((with_reducible apply wp_d); rfl) | ((with_reducible apply wp_l); rfl) | ((with_reducible apply wp_o); rfl) | ((with_reducible apply wp_f); rfl)  | (focus ((with_reducible refine wp_eqS ?_ ?_ ?_); rotate_left; contradiction; contradiction)) | (focus ((with_reducible refine wp_neS ?_ ?_ ?_); rotate_left; contradiction; contradiction)) | (focus ((with_reducible refine wp_mod ?_ ?_); rotate_left; contradiction)) | (focus ((with_reducible refine wp_fdiv ?_ ?_ ?_); rotate_left; contradiction; contradiction)) | (focus ((with_reducible refine wp_mul ?_ ?_); rotate_left; contradiction)) | (focus ((with_reducible refine wp_powI ?_ ?_); rotate_left; contradiction)) | (focus ((with_reducible refine wp_addL ?_ ?_); rotate_left; contradiction)) | (focus ((with_reducible refine wp_addT ?_ ?_); rotate_left; contradiction)) | (focus ((with_reducible refine wp_range1 ?_ ?_); rotate_left; contradiction)) | ((with_reducible apply isDs_ok); rfl; exact Nat.le_of_ble_eq_true rfl) | ((with_reducible apply isAt_ok); rfl) | ((with_reducible apply isMt_ok); rfl) | (focus ((with_reducible apply wp_app); rfl; rotate_left; first | contradiction | rotate_left)) | (focus ((with_reducible apply wp_extT); rfl; rotate_left; first | contradiction | rotate_left)) | (focus ((with_reducible apply wp_extA); rfl; rfl; rotate_left; first | contradiction | rotate_left)) | refine wp_ok ?_))
local macro_rules
  | `(tactic| simp_arith) => `(tactic| repeat infer_instance)
local macro_rules
  | `(tactic| simp_all_arith) => `(tactic| repeat (first | (fail_if_success (with_reducible refine ws_if ?_)); infer_instance))
local macro_rules
  | `(tactic| simp_arith [$a0:term]) => `(tactic| repeat (first | (with_reducible (first | refine wp_C ?_ | refine wp_m2 ?_ | refine wp_m1 ?_ | refine wp_B ?_ | refine isB_ok ?_ | refine if_tt ?_ | refine if_ff ?_ | refine isV_v ?_ | refine isO_o ?_ | refine ws_seq ?_ | refine ws_nil ?_ | refine wp_nil ?_ | refine wp_cons ?_ | refine wp_call ?_ | refine wp_callF ?_ | refine ws_if ?_ | refine ws_ret ?_ | refine ws_set ?_ | refine toSl_d ?_ | refine wp_tup ?_ | refine wp_lst ?_ | refine wp_frz ?_ | refine isFr_l ?_ | refine isFr_k ?_ | refine wp_and ?_ | refine wp_or ?_ | refine wp_not ?_ | refine wp_andV ?_ | refine wp_orV ?_ | refine wp_notV ?_ | refine wp_if ?_ | refine wp_eqI ?_ | refine wp_neI ?_ | refine wp_neB ?_ | refine wp_eqB ?_ | refine wp_addI ?_ | refine wp_subI ?_ | refine wp_ltI ?_ | refine wp_leI ?_ | refine wp_gtI ?_ | refine wp_geI ?_ | refine wp_int ?_ | refine wp_opI ?_ | refine wp_neg ?_ | refine wp_chain ?_ | refine ws_expr ?_ | refine ws_retF ?_ | refine ws_own ?_ | refine ws_loc ?_ | refine ws_frz ?_ | refine ws_unp ?_ | refine ws_FF ?_ | refine ws_FV ?_ | refine ws_VF ?_ | refine ws_par ?_ | refine ws_store ?_ | refine ws_augS ?_ | refine ws_storeK ?_ | refine ws_forK ?_ | refine wp_oN ?_ | refine wp_oS ?_ | refine isI_ok ?_ | refine wp_sl ?_ | refine wp_mt ?_ | refine wp_mt0 ?_ | refine wp_src ?_ | refine wp_items ?_ | refine wp_itemsA ?_ | refine wp_enum ?_ | refine wp_zip ?_ | refine wp_yes ?_ | refine wp_kget ?_ | refine wp_enumL ?_ | refine wp_itemL ?_ | refine wp_itemT ?_)) | ((with_reducible apply wp_is0 $a0); rfl) | infer_instance))
local macro_rules
  | `(tactic| simp_arith [$a0:term, $a1:term]) => `(tactic| repeat (first | (with_reducible (first | refine wp_C ?_ | refine wp_m2 ?_ | refine wp_m1 ?_ | refine wp_B ?_ | refine isB_ok ?_ | refine if_tt ?_ | refine if_ff ?_ | refine isV_v ?_ | refine isO_o ?_ | refine ws_seq ?_ | refine ws_nil ?_ | refine wp_nil ?_ | refine wp_cons ?_ | refine wp_call ?_ | refine wp_callF ?_ | refine ws_if ?_ | refine ws_ret ?_ | refine ws_set ?_ | refine toSl_d ?_ | refine wp_tup ?_ | refine wp_lst ?_ | refine wp_frz ?_ | refine isFr_l ?_ | refine isFr_k ?_ | refine wp_and ?_ | refine wp_or ?_ | refine wp_not ?_ | refine wp_andV ?_ | refine wp_orV ?_ | refine wp_notV ?_ | refine wp_if ?_ | refine wp_eqI ?_ | refine wp_neI ?_ | refine wp_neB ?_ | refine wp_eqB ?_ | refine wp_addI ?_ | refine wp_subI ?_ | refine wp_ltI ?_ | refine wp_leI ?_ | refine wp_gtI ?_ | refine wp_geI ?_ | refine wp_int ?_ | refine wp_opI ?_ | refine wp_neg ?_ | refine wp_chain ?_ | refine ws_expr ?_ | refine ws_retF ?_ | refine ws_own ?_ | refine ws_loc ?_ | refine ws_frz ?_ | refine ws_unp ?_ | refine ws_FF ?_ | refine ws_FV ?_ | refine ws_VF ?_ | refine ws_par ?_ | refine ws_store ?_ | refine ws_augS ?_ | refine ws_storeK ?_ | refine ws_forK ?_ | refine wp_oN ?_ | refine wp_oS ?_ | refine isI_ok ?_ | refine wp_sl ?_ | refine wp_mt ?_ | refine wp_mt0 ?_ | refine wp_src ?_ | refine wp_items ?_ | refine wp_itemsA ?_ | refine wp_enum ?_ | refine wp_zip ?_ | refine wp_yes ?_ | refine wp_kget ?_ | refine wp_enumL ?_ | refine wp_itemL ?_ | refine wp_itemT ?_)) | ((with_reducible apply wp_is0 $a0); rfl) | ((with_reducible apply wp_is0 $a1); rfl) | infer_instance))
local macro_rules
  | `(tactic| simp_arith [$a0:term, $a1:term, $a2:term]) => `(tactic| repeat (first | (with_reducible (first | refine wp_C ?_ | refine wp_m2 ?_ | refine wp_m1 ?_ | refine wp_B ?_ | refine isB_ok ?_ | refine if_tt ?_ | refine if_ff ?_ | refine isV_v ?_ | refine isO_o ?_ | refine ws_seq ?_ | refine ws_nil ?_ | refine wp_nil ?_ | refine wp_cons ?_ | refine wp_call ?_ | refine wp_callF ?_ | refine ws_if ?_ | refine ws_ret ?_ | refine ws_set ?_ | refine toSl_d ?_ | refine wp_tup ?_ | refine wp_lst ?_ | refine wp_frz ?_ | refine isFr_l ?_ | refine isFr_k ?_ | refine wp_and ?_ | refine wp_or ?_ | refine wp_not ?_ | refine wp_andV ?_ | refine wp_orV ?_ | refine wp_notV ?_ | refine wp_if ?_ | refine wp_eqI ?_ | refine wp_neI ?_ | refine wp_neB ?_ | refine wp_eqB ?_ | refine wp_addI ?_ | refine wp_subI ?_ | refine wp_ltI ?_ | refine wp_leI ?_ | refine wp_gtI ?_ | refine wp_geI ?_ | refine wp_int ?_ | refine wp_opI ?_ | refine wp_neg ?_ | refine wp_chain ?_ | refine ws_expr ?_ | refine ws_retF ?_ | refine ws_own ?_ | refine ws_loc ?_ | refine ws_frz ?_ | refine ws_unp ?_ | refine ws_FF ?_ | refine ws_FV ?_ | refine ws_VF ?_ | refine ws_par ?_ | refine ws_store ?_ | refine ws_augS ?_ | refine ws_storeK ?_ | refine ws_forK ?_ | refine wp_oN ?_ | refine wp_oS ?_ | refine isI_ok ?_ | refine wp_sl ?_ | refine wp_mt ?_ | refine wp_mt0 ?_ | refine wp_src ?_ | refine wp_items ?_ | refine wp_itemsA ?_ | refine wp_enum ?_ | refine wp_zip ?_ | refine wp_yes ?_ | refine wp_kget ?_ | refine wp_enumL ?_ | refine wp_itemL ?_ | refine wp_itemT ?_)) | ((with_reducible apply wp_is0 $a0); rfl) | ((with_reducible apply wp_is0 $a1); rfl) | ((with_reducible apply wp_is0 $a2); rfl) | infer_instance))
local macro_rules
  | `(tactic| simp_arith [$a0:term, $a1:term, $a2:term, $a3:term]) => `(tactic| repeat (first | (with_reducible (first | refine wp_C ?_ | refine wp_m2 ?_ | refine wp_m1 ?_ | refine wp_B ?_ | refine isB_ok ?_ | refine if_tt ?_ | refine if_ff ?_ | refine isV_v ?_ | refine isO_o ?_ | refine ws_seq ?_ | refine ws_nil ?_ | refine wp_nil ?_ | refine wp_cons ?_ | refine wp_call ?_ | refine wp_callF ?_ | refine ws_if ?_ | refine ws_ret ?_ | refine ws_set ?_ | refine toSl_d ?_ | refine wp_tup ?_ | refine wp_lst ?_ | refine wp_frz ?_ | refine isFr_l ?_ | refine isFr_k ?_ | refine wp_and ?_ | refine wp_or ?_ | refine wp_not ?_ | refine wp_andV ?_ | refine wp_orV ?_ | refine wp_notV ?_ | refine wp_if ?_ | refine wp_eqI ?_ | refine wp_neI ?_ | refine wp_neB ?_ | refine wp_eqB ?_ | refine wp_addI ?_ | refine wp_subI ?_ | refine wp_ltI ?_ | refine wp_leI ?_ | refine wp_gtI ?_ | refine wp_geI ?_ | refine wp_int ?_ | refine wp_opI ?_ | refine wp_neg ?_ | refine wp_chain ?_ | refine ws_expr ?_ | refine ws_retF ?_ | refine ws_own ?_ | refine ws_loc ?_ | refine ws_frz ?_ | refine ws_unp ?_ | refine ws_FF ?_ | refine ws_FV ?_ | refine ws_VF ?_ | refine ws_par ?_ | refine ws_store ?_ | refine ws_augS ?_ | refine ws_storeK ?_ | refine ws_forK ?_ | refine wp_oN ?_ | refine wp_oS ?_ | refine isI_ok ?_ | refine wp_sl ?_ | refine wp_mt ?_ | refine wp_mt0 ?_ | refine wp_src ?_ | refine wp_items ?_ | refine wp_itemsA ?_ | refine wp_enum ?_ | refine wp_zip ?_ | refine wp_yes ?_ | refine wp_kget ?_ | refine wp_enumL ?_ | refine wp_itemL ?_ | refine wp_itemT ?_)) | ((with_reducible apply wp_is0 $a0); rfl) | ((with_reducible apply wp_is0 $a1); rfl) | ((with_reducible apply wp_is0 $a2); rfl) | ((with_reducible apply wp_is0 $a3); rfl) | infer_instance))
local macro_rules
  | `(tactic| simp_arith [$a0:term, $a1:term, $a2:term, $a3:term, $a4:term]) => `(tactic| repeat (first | (with_reducible (first | refine wp_C ?_ | refine wp_m2 ?_ | refine wp_m1 ?_ | refine wp_B ?_ | refine isB_ok ?_ | refine if_tt ?_ | refine if_ff ?_ | refine isV_v ?_ | refine isO_o ?_ | refine ws_seq ?_ | refine ws_nil ?_ | refine wp_nil ?_ | refine wp_cons ?_ | refine wp_call ?_ | refine wp_callF ?_ | refine ws_if ?_ | refine ws_ret ?_ | refine ws_set ?_ | refine toSl_d ?_ | refine wp_tup ?_ | refine wp_lst ?_ | refine wp_frz ?_ | refine isFr_l ?_ | refine isFr_k ?_ | refine wp_and ?_ | refine wp_or ?_ | refine wp_not ?_ | refine wp_andV ?_ | refine wp_orV ?_ | refine wp_notV ?_ | refine wp_if ?_ | refine wp_eqI ?_ | refine wp_neI ?_ | refine wp_neB ?_ | refine wp_eqB ?_ | refine wp_addI ?_ | refine wp_subI ?_ | refine wp_ltI ?_ | refine wp_leI ?_ | refine wp_gtI ?_ | refine wp_geI ?_ | refine wp_int ?_ | refine wp_opI ?_ | refine wp_neg ?_ | refine wp_chain ?_ | refine ws_expr ?_ | refine ws_retF ?_ | refine ws_own ?_ | refine ws_loc ?_ | refine ws_frz ?_ | refine ws_unp ?_ | refine ws_FF ?_ | refine ws_FV ?_ | refine ws_VF ?_ | refine ws_par ?_ | refine ws_store ?_ | refine ws_augS ?_ | refine ws_storeK ?_ | refine ws_forK ?_ | refine wp_oN ?_ | refine wp_oS ?_ | refine isI_ok ?_ | refine wp_sl ?_ | refine wp_mt ?_ | refine wp_mt0 ?_ | refine wp_src ?_ | refine wp_items ?_ | refine wp_itemsA ?_ | refine wp_enum ?_ | refine wp_zip ?_ | refine wp_yes ?_ | refine wp_kget ?_ | refine wp_enumL ?_ | refine wp_itemL ?_ | refine wp_itemT ?_)) | ((with_reducible apply wp_is0 $a0); rfl) | ((with_reducible apply wp_is0 $a1); rfl) | ((with_reducible apply wp_is0 $a2); rfl) | ((with_reducible apply wp_is0 $a3); rfl) | ((with_reducible apply wp_is0 $a4); rfl) | infer_instance))
local macro_rules
  | `(tactic| simp_arith [$a0:term, $a1:term, $a2:term, $a3:term, $a4:term, $a5:term]) => `(tactic| repeat (first | (with_reducible (first | refine wp_C ?_ | refine wp_m2 ?_ | refine wp_m1 ?_ | refine wp_B ?_ | refine isB_ok ?_ | refine if_tt ?_ | refine if_ff ?_ | refine isV_v ?_ | refine isO_o ?_ | refine ws_seq ?_ | refine ws_nil ?_ | refine wp_nil ?_ | refine wp_cons ?_ | refine wp_call ?_ | refine wp_callF ?_ | refine ws_if ?_ | refine ws_ret ?_ | refine ws_set ?_ | refine toSl_d ?_ | refine wp_tup ?_ | refine wp_lst ?_ | refine wp_frz ?_ | refine isFr_l ?_ | refine isFr_k ?_ | refine wp_and ?_ | refine wp_or ?_ | refine wp_not ?_ | refine wp_andV ?_ | refine wp_orV ?_ | refine wp_notV ?_ | refine wp_if ?_ | refine wp_eqI ?_ | refine wp_neI ?_ | refine wp_neB ?_ | refine wp_eqB ?_ | refine wp_addI ?_ | refine wp_subI ?_ | refine wp_ltI ?_ | refine wp_leI ?_ | refine wp_gtI ?_ | refine wp_geI ?_ | refine wp_int ?_ | refine wp_opI ?_ | refine wp_neg ?_ | refine wp_chain ?_ | refine ws_expr ?_ | refine ws_retF ?_ | refine ws_own ?_ | refine ws_loc ?_ | refine ws_frz ?_ | refine ws_unp ?_ | refine ws_FF ?_ | refine ws_FV ?_ | refine ws_VF ?_ | refine ws_par ?_ | refine ws_store ?_ | refine ws_augS ?_ | refine ws_storeK ?_ | refine ws_forK ?_ | refine wp_oN ?_ | refine wp_oS ?_ | refine isI_ok ?_ | refine wp_sl ?_ | refine wp_mt ?_ | refine wp_mt0 ?_ | refine wp_src ?_ | refine wp_items ?_ | refine wp_itemsA ?_ | refine wp_enum ?_ | refine wp_zip ?_ | refine wp_yes ?_ | refine wp_kget ?_ | refine wp_enumL ?_ | refine wp_itemL ?_ | refine wp_itemT ?_)) | ((with_reducible apply wp_is0 $a0); rfl) | ((with_reducible apply wp_is0 $a1); rfl) | ((with_reducible apply wp_is0 $a2); rfl) | ((with_reducible apply wp_is0 $a3); rfl) | ((with_reducible apply wp_is0 $a4); rfl) | ((with_reducible apply wp_is0 $a5); rfl) | infer_instance))
local macro_rules
  | `(tactic| simp_arith [$a0:term, $a1:term, $a2:term, $a3:term, $a4:term, $a5:term, $a6:term]) => `(tactic| repeat (first | (with_reducible (first | refine wp_C ?_ | refine wp_m2 ?_ | refine wp_m1 ?_ | refine wp_B ?_ | refine isB_ok ?_ | refine if_tt ?_ | refine if_ff ?_ | refine isV_v ?_ | refine isO_o ?_ | refine ws_seq ?_ | refine ws_nil ?_ | refine wp_nil ?_ | refine wp_cons ?_ | refine wp_call ?_ | refine wp_callF ?_ | refine ws_if ?_ | refine ws_ret ?_ | refine ws_set ?_ | refine toSl_d ?_ | refine wp_tup ?_ | refine wp_lst ?_ | refine wp_frz ?_ | refine isFr_l ?_ | refine isFr_k ?_ | refine wp_and ?_ | refine wp_or ?_ | refine wp_not ?_ | refine wp_andV ?_ | refine wp_orV ?_ | refine wp_notV ?_ | refine wp_if ?_ | refine wp_eqI ?_ | refine wp_neI ?_ | refine wp_neB ?_ | refine wp_eqB ?_ | refine wp_addI ?_ | refine wp_subI ?_ | refine wp_ltI ?_ | refine wp_leI ?_ | refine wp_gtI ?_ | refine wp_geI ?_ | refine wp_int ?_ | refine wp_opI ?_ | refine wp_neg ?_ | refine wp_chain ?_ | refine ws_expr ?_ | refine ws_retF ?_ | refine ws_own ?_ | refine ws_loc ?_ | refine ws_frz ?_ | refine ws_unp ?_ | refine ws_FF ?_ | refine ws_FV ?_ | refine ws_VF ?_ | refine ws_par ?_ | refine ws_store ?_ | refine ws_augS ?_ | refine ws_storeK ?_ | refine ws_forK ?_ | refine wp_oN ?_ | refine wp_oS ?_ | refine isI_ok ?_ | refine wp_sl ?_ | refine wp_mt ?_ | refine wp_mt0 ?_ | refine wp_src ?_ | refine wp_items ?_ | refine wp_itemsA ?_ | refine wp_enum ?_ | refine wp_zip ?_ | refine wp_yes ?_ | refine wp_kget ?_ | refine wp_enumL ?_ | refine wp_itemL ?_ | refine wp_itemT ?_)) | ((with_reducible apply wp_is0 $a0); rfl) | ((with_reducible apply wp_is0 $a1); rfl) | ((with_reducible apply wp_is0 $a2); rfl) | ((with_reducible apply wp_is0 $a3); rfl) | ((with_reducible apply wp_is0 $a4); rfl) | ((with_reducible apply wp_is0 $a5); rfl) | ((with_reducible apply wp_is0 $a6); rfl) | infer_instance))
local macro_rules
  | `(tactic| simp_arith [$a0:term, $a1:term, $a2:term, $a3:term, $a4:term, $a5:term, $a6:term, $a7:term]) => `(tactic| repeat (first | (with_reducible (first | refine wp_C ?_ | refine wp_m2 ?_ | refine wp_m1 ?_ | refine wp_B ?_ | refine isB_ok ?_ | refine if_tt ?_ | refine if_ff ?_ | refine isV_v ?_ | refine isO_o ?_ | refine ws_seq ?_ | refine ws_nil ?_ | refine wp_nil ?_ | refine wp_cons ?_ | refine wp_call ?_ | refine wp_callF ?_ | refine ws_if ?_ | refine ws_ret ?_ | refine ws_set ?_ | refine toSl_d ?_ | refine wp_tup ?_ | refine wp_lst ?_ | refine wp_frz ?_ | refine isFr_l ?_ | refine isFr_k ?_ | refine wp_and ?_ | refine wp_or ?_ | refine wp_not ?_ | refine wp_andV ?_ | refine wp_orV ?_ | refine wp_notV ?_ | refine wp_if ?_ | refine wp_eqI ?_ | refine wp_neI ?_ | refine wp_neB ?_ | refine wp_eqB ?_ | refine wp_addI ?_ | refine wp_subI ?_ | refine wp_ltI ?_ | refine wp_leI ?_ | refine wp_gtI ?_ | refine wp_geI ?_ | refine wp_int ?_ | refine wp_opI ?_ | refine wp_neg ?_ | refine wp_chain ?_ | refine ws_expr ?_ | refine ws_retF ?_ | refine ws_own ?_ | refine ws_loc ?_ | refine ws_frz ?_ | refine ws_unp ?_ | refine ws_FF ?_ | refine ws_FV ?_ | refine ws_VF ?_ | refine ws_par ?_ | refine ws_store ?_ | refine ws_augS ?_ | refine ws_storeK ?_ | refine ws_forK ?_ | refine wp_oN ?_ | refine wp_oS ?_ | refine isI_ok ?_ | refine wp_sl ?_ | refine wp_mt ?_ | refine wp_mt0 ?_ | refine wp_src ?_ | refine wp_items ?_ | refine wp_itemsA ?_ | refine wp_enum ?_ | refine wp_zip ?_ | refine wp_yes ?_ | refine wp_kget ?_ | refine wp_enumL ?_ | refine wp_itemL ?_ | refine wp_itemT ?_)) | ((with_reducible apply wp_is0 $a0); rfl) | ((with_reducible apply wp_is0 $a1); rfl) | ((with_reducible apply wp_is0 $a2); rfl) | ((with_reducible apply wp_is0 $a3); rfl) | ((with_reducible apply wp_is0 $a4); rfl) | ((with_reducible apply wp_is0 $a5); rfl) | ((with_reducible apply wp_is0 $a6); rfl) | ((with_reducible apply wp_is0 $a7); rfl) | infer_instance))
local macro_rules
  | `(tactic| array_get_dec) => `(tactic| (first | (with_reducible (first | apply pv_C | apply pv_kt | apply pl_nil | apply tb_yes | apply pi_N | apply po_dnew | apply pv_m2 | apply pv_m1 | apply pl_cons | apply pv_call | apply po_callF | apply pv_frzL | apply tb_B | apply tb_not | apply pv_notV | apply pi_S | apply pv_sl | apply pj_itemsA | apply pj_items | apply pj_enum | apply pj_src | apply pj_zip | apply pv_tup | apply po_lst | apply a_eqI | apply a_neI | apply a_eqB | apply a_neB | apply a_addI | apply a_subI | apply a_leI | apply a_ltI | apply a_gtI | apply a_geI | apply a_ltS | apply a_lenL | apply a_lenT | apply a_tuple | apply a_tupT | apply a_listL | apply a_listT | apply a_intB | apply a_intI | apply a_slL | apply a_slT | apply a_isN | apply a_notN | apply aj_lst | apply aj_tup | apply aj_kt | apply aj_frz | apply aj_enumL | apply a_all | apply a_any | apply tb_and | apply tb_or | apply pv_andV | apply pv_orV | apply pv_chain | apply pv_ifD)) | ((with_reducible apply pv_d); rfl) | ((with_reducible apply pv_o); rfl) | ((with_reducible apply pv_f); rfl) | ((with_reducible apply pv_l); rfl) | ((with_reducible apply a_isi); first | rfl | assumption) | (focus ((with_reducible apply a_eqS); contradiction; contradiction)) | (focus ((with_reducible apply a_neS); contradiction; contradiction)) | (focus ((with_reducible apply a_addL); contradiction)) | (focus ((with_reducible apply a_addT); contradiction)) | (focus ((with_reducible apply a_lenS); contradiction)) | (focus ((with_reducible apply aj_str); contradiction)) | (focus ((with_reducible apply aj_range1); contradiction)) | (focus ((with_reducible apply aj_zipT); contradiction)) | (focus ((with_reducible apply aj_zipL); contradiction))))
local macro_rules
  | `(tactic| simp_arith!) => `(tactic| repeat (first | array_get_dec | exact tb_absF rfl | exact tb_absT rfl | exact pv_absF rfl | exact pv_absT rfl | exact a2_absT rfl | intro _ | exact (false : Bool) | ((with_reducible apply a_ix); rfl) | ((with_reducible apply a_ixL); rfl) | (exact Nat.le_of_ble_eq_true rfl) | exact rfl))
local macro_rules
  | `(tactic| simp_arith! [$a0:term]) => `(tactic| repeat (first | array_get_dec | ((with_reducible apply a_is0 $a0); rfl) | ((with_reducible apply a2_id); exact $a0) | ((with_reducible apply ao_id); exact $a0) | (with_reducible exact $a0) | exact tb_absF rfl | exact tb_absT rfl | exact pv_absF rfl | exact pv_absT rfl | exact a2_absT rfl | intro _ | exact (false : Bool) | ((with_reducible apply a_ix); rfl) | ((with_reducible apply a_ixL); rfl) | (exact Nat.le_of_ble_eq_true rfl) | exact rfl))
local macro_rules
  | `(tactic| simp_arith! [$a0:term, $a1:term]) => `(tactic| repeat (first | array_get_dec | ((with_reducible apply a_is0 $a0); rfl) | ((with_reducible apply a2_id); exact $a0) | ((with_reducible apply ao_id); exact $a0) | (with_reducible exact $a0) | ((with_reducible apply a_is0 $a1); rfl) | ((with_reducible apply a2_id); exact $a1) | ((with_reducible apply ao_id); exact $a1) | (with_reducible exact $a1) | exact tb_absF rfl | exact tb_absT rfl | exact pv_absF rfl | exact pv_absT rfl | exact a2_absT rfl | intro _ | exact (false : Bool) | ((with_reducible apply a_ix); rfl) | ((with_reducible apply a_ixL); rfl) | (exact Nat.le_of_ble_eq_true rfl) | exact rfl))
local macro_rules
  | `(tactic| simp_arith! [$a0:term, $a1:term, $a2:term]) => `(tactic| repeat (first | array_get_dec | ((with_reducible apply a_is0 $a0); rfl) | ((with_reducible apply a2_id); exact $a0) | ((with_reducible apply ao_id); exact $a0) | (with_reducible exact $a0) | ((with_reducible apply a_is0 $a1); rfl) | ((with_reducible apply a2_id); exact $a1) | ((with_reducible apply ao_id); exact $a1) | (with_reducible exact $a1) | ((with_reducible apply a_is0 $a2); rfl) | ((with_reducible apply a2_id); exact $a2) | ((with_reducible apply ao_id); exact $a2) | (with_reducible exact $a2) | exact tb_absF rfl | exact tb_absT rfl | exact pv_absF rfl | exact pv_absT rfl | exact a2_absT rfl | intro _ | exact (false : Bool) | ((with_reducible apply a_ix); rfl) | ((with_reducible apply a_ixL); rfl) | (exact Nat.le_of_ble_eq_true rfl) | exact rfl))
local macro_rules
  | `(tactic| simp_arith! [$a0:term, $a1:term, $a2:term, $a3:term]) => `(tactic| repeat (first | array_get_dec | ((with_reducible apply a_is0 $a0); rfl) | ((with_reducible apply a2_id); exact $a0) | ((with_reducible apply ao_id); exact $a0) | (with_reducible exact $a0) | ((with_reducible apply a_is0 $a1); rfl) | ((with_reducible apply a2_id); exact $a1) | ((with_reducible apply ao_id); exact $a1) | (with_reducible exact $a1) | ((with_reducible apply a_is0 $a2); rfl) | ((with_reducible apply a2_id); exact $a2) | ((with_reducible apply ao_id); exact $a2) | (with_reducible exact $a2) | ((with_reducible apply a_is0 $a3); rfl) | ((with_reducible apply a2_id); exact $a3) | ((with_reducible apply ao_id); exact $a3) | (with_reducible exact $a3) | exact tb_absF rfl | exact tb_absT rfl | exact pv_absF rfl | exact pv_absT rfl | exact a2_absT rfl | intro _ | exact (false : Bool) | ((with_reducible apply a_ix); rfl) | ((with_reducible apply a_ixL); rfl) | (exact Nat.le_of_ble_eq_true rfl) | exact rfl))
local macro_rules
  | `(tactic| simp_arith! [$a0:term, $a1:term, $a2:term, $a3:term, $a4:term]) => `(tactic| repeat (first | array_get_dec | ((with_reducible apply a_is0 $a0); rfl) | ((with_reducible apply a2_id); exact $a0) | ((with_reducible apply ao_id); exact $a0) | (with_reducible exact $a0) | ((with_reducible apply a_is0 $a1); rfl) | ((with_reducible apply a2_id); exact $a1) | ((with_reducible apply ao_id); exact $a1) | (with_reducible exact $a1) | ((with_reducible apply a_is0 $a2); rfl) | ((with_reducible apply a2_id); exact $a2) | ((with_reducible apply ao_id); exact $a2) | (with_reducible exact $a2) | ((with_reducible apply a_is0 $a3); rfl) | ((with_reducible apply a2_id); exact $a3) | ((with_reducible apply ao_id); exact $a3) | (with_reducible exact $a3) | ((with_reducible apply a_is0 $a4); rfl) | ((with_reducible apply a2_id); exact $a4) | ((with_reducible apply ao_id); exact $a4) | (with_reducible exact $a4) | exact tb_absF rfl | exact tb_absT rfl | exact pv_absF rfl | exact pv_absT rfl | exact a2_absT rfl | intro _ | exact (false : Bool) | ((with_reducible apply a_ix); rfl) | ((with_reducible apply a_ixL); rfl) | (exact Nat.le_of_ble_eq_true rfl) | exact rfl))
local macro_rules
  | `(tactic| simp_arith! [$a0:term, $a1:term, $a2:term, $a3:term, $a4:term, $a5:term]) => `(tactic| repeat (first | array_get_dec | ((with_reducible apply a_is0 $a0); rfl) | ((with_reducible apply a2_id); exact $a0) | ((with_reducible apply ao_id); exact $a0) | (with_reducible exact $a0) | ((with_reducible apply a_is0 $a1); rfl) | ((with_reducible apply a2_id); exact $a1) | ((with_reducible apply ao_id); exact $a1) | (with_reducible exact $a1) | ((with_reducible apply a_is0 $a2); rfl) | ((with_reducible apply a2_id); exact $a2) | ((with_reducible apply ao_id); exact $a2) | (with_reducible exact $a2) | ((with_reducible apply a_is0 $a3); rfl) | ((with_reducible apply a2_id); exact $a3) | ((with_reducible apply ao_id); exact $a3) | (with_reducible exact $a3) | ((with_reducible apply a_is0 $a4); rfl) | ((with_reducible apply a2_id); exact $a4) | ((with_reducible apply ao_id); exact $a4) | (with_reducible exact $a4) | ((with_reducible apply a_is0 $a5); rfl) | ((with_reducible apply a2_id); exact $a5) | ((with_reducible apply ao_id); exact $a5) | (with_reducible exact $a5) | exact tb_absF rfl | exact tb_absT rfl | exact pv_absF rfl | exact pv_absT rfl | exact a2_absT rfl | intro _ | exact (false : Bool) | ((with_reducible apply a_ix); rfl) | ((with_reducible apply a_ixL); rfl) | (exact Nat.le_of_ble_eq_true rfl) | exact rfl))
local macro_rules
  | `(tactic| simp_arith! [$a0:term, $a1:term, $a2:term, $a3:term, $a4:term, $a5:term, $a6:term]) => `(tactic| repeat (first | array_get_dec | ((with_reducible apply a_is0 $a0); rfl) | ((with_reducible apply a2_id); exact $a0) | ((with_reducible apply ao_id); exact $a0) | (with_reducible exact $a0) | ((with_reducible apply a_is0 $a1); rfl) | ((with_reducible apply a2_id); exact $a1) | ((with_reducible apply ao_id); exact $a1) | (with_reducible exact $a1) | ((with_reducible apply a_is0 $a2); rfl) | ((with_reducible apply a2_id); exact $a2) | ((with_reducible apply ao_id); exact $a2) | (with_reducible exact $a2) | ((with_reducible apply a_is0 $a3); rfl) | ((with_reducible apply a2_id); exact $a3) | ((with_reducible apply ao_id); exact $a3) | (with_reducible exact $a3) | ((with_reducible apply a_is0 $a4); rfl) | ((with_reducible apply a2_id); exact $a4) | ((with_reducible apply ao_id); exact $a4) | (with_reducible exact $a4) | ((with_reducible apply a_is0 $a5); rfl) | ((with_reducible apply a2_id); exact $a5) | ((with_reducible apply ao_id); exact $a5) | (with_reducible exact $a5) | ((with_reducible apply a_is0 $a6); rfl) | ((with_reducible apply a2_id); exact $a6) | ((with_reducible apply ao_id); exact $a6) | (with_reducible exact $a6) | exact tb_absF rfl | exact tb_absT rfl | exact pv_absF rfl | exact pv_absT rfl | exact a2_absT rfl | intro _ | exact (false : Bool) | ((with_reducible apply a_ix); rfl) | ((with_reducible apply a_ixL); rfl) | (exact Nat.le_of_ble_eq_true rfl) | exact rfl))
local macro_rules
  | `(tactic| simp_arith! [$a0:term, $a1:term, $a2:term, $a3:term, $a4:term, $a5:term, $a6:term, $a7:term]) => `(tactic| repeat (first | array_get_dec | ((with_reducible apply a_is0 $a0); rfl) | ((with_reducible apply a2_id); exact $a0) | ((with_reducible apply ao_id); exact $a0) | (with_reducible exact $a0) | ((with_reducible apply a_is0 $a1); rfl) | ((with_reducible apply a2_id); exact $a1) | ((with_reducible apply ao_id); exact $a1) | (with_reducible exact $a1) | ((with_reducible apply a_is0 $a2); rfl) | ((with_reducible apply a2_id); exact $a2) | ((with_reducible apply ao_id); exact $a2) | (with_reducible exact $a2) | ((with_reducible apply a_is0 $a3); rfl) | ((with_reducible apply a2_id); exact $a3) | ((with_reducible apply ao_id); exact $a3) | (with_reducible exact $a3) | ((with_reducible apply a_is0 $a4); rfl) | ((with_reducible apply a2_id); exact $a4) | ((with_reducible apply ao_id); exact $a4) | (with_reducible exact $a4) | ((with_reducible apply a_is0 $a5); rfl) | ((with_reducible apply a2_id); exact $a5) | ((with_reducible apply ao_id); exact $a5) | (with_reducible exact $a5) | ((with_reducible apply a_is0 $a6); rfl) | ((with_reducible apply a2_id); exact $a6) | ((with_reducible apply ao_id); exact $a6) | (with_reducible exact $a6) | ((with_reducible apply a_is0 $a7); rfl) | ((with_reducible apply a2_id); exact $a7) | ((with_reducible apply ao_id); exact $a7) | (with_reducible exact $a7) | exact tb_absF rfl | exact tb_absT rfl | exact pv_absF rfl | exact pv_absT rfl | exact a2_absT rfl | intro _ | exact (false : Bool) | ((with_reducible apply a_ix); rfl) | ((with_reducible apply a_ixL); rfl) | (exact Nat.le_of_ble_eq_true rfl) | exact rfl))
theorem formula_ok {ns : List Str} (h1 : ns.length < 1000) (hs : ∀ x ∈ ns, Sh (.str x)) : ∀ (n d : Nat) (o : Ob), d < n → Bag o → wf (F_l_formula n [.loc 0, .d (.list (ns.map .str)), .d (.int d)] [o]) fun r sto => ∃ f o', r = .v (.d (enc f)) ∧ sto = [o'] ∧ Bag o' ∧ fd f ≤ d + 1 ∧ sz f ≤ N0 d ∧ On (· ∈ ns) f
  | 0, d, o, hd, _ => by omega
  | n + 1, d, o, hd, hb => by
    show wf (M_l_formula (F_l_formula n) _ _) _
    unfold M_l_formula
    refine wf_fun ?_
    simp_arith
    refine wf_mono (take_ok hb (by decide) (by decide)) ?_
    rintro _ _ ⟨v, o, rfl, rfl, v0, v1, hb⟩
    have hds : ∀ d ∈ ns.map PyData.str, Sh d := fun d h => by
      obtain ⟨x, hx, rfl⟩ := List.mem_map.mp h
      exact hs x hx
    refine toSl_d ?_
    refine ws_cut (fun s => ∃ o, s = ⟨[.loc 0, .d (.list (ns.map .str)), .d (.int d), .d (.int v), .un, .un], [o]⟩ ∧ Bag o ∧ d ≠ 0) ?_ ?_
    · refine ws_if (wp_mono (Q := fun c s => s = ⟨[.loc 0, .d (.list (ns.map .str)), .d (.int d), .d (.int v), .un, .un], [o]⟩ ∧ (c = false → d ≠ 0)) ?_ ?_)
      · simp_arith
        refine if_t (fun h => ⟨rfl, fun e => nomatch e⟩) fun h => ?_
        simp_arith
        exact ⟨rfl, fun _ z => by subst z; cases h⟩
      · rintro c s ⟨rfl, hc⟩
        refine if_t (fun h => ?_) fun h => ?_
        · refine ws_seq ?_
          refine ws_if (wp_mono (Q := fun c s => ∃ o, s = ⟨[.loc 0, .d (.list (ns.map .str)), .d (.int d), .d (.int v), .un, .un], [o]⟩ ∧ Bag o ∧ (c = false → ns.map PyData.str ≠ [])) ?_ ?_)
          · simp_arith
            refine wp_eqD (d := .list (ns.map .str)) (e := .list []) rfl rfl ?_ (shl_shaped hds) (by decide)
            rw [eqv_nil]
            simp_arith
            refine if_t (fun h => ⟨o, rfl, hb, fun e => nomatch e⟩) fun h => ?_
            simp_arith
            refine wf_mono (take_ok hb (by decide) (by decide)) ?_
            rintro _ _ ⟨v, o, rfl, rfl, _, _, hb⟩
            simp_arith
            exact ⟨o, rfl, hb, fun _ => of_decide_eq_false h⟩
          · rintro c s ⟨o, rfl, hb, hne⟩
            refine if_t (fun h => ?_) fun h => ?_
            · simp_arith
              refine wf_mono (some_ok hb (by simp) (by decide)) ?_
              rintro _ _ ⟨x, o, rfl, rfl, hx, hb⟩
              simp_arith
              have hw : ∃ w, x = .str (wd w) := by
                simp only [List.mem_cons, List.not_mem_nil, or_false] at hx
                rcases hx with rfl | rfl | rfl
                · exact ⟨true, rfl⟩
                · exact ⟨false, rfl⟩
                · exact ⟨true, rfl⟩
              obtain ⟨w, rfl⟩ := hw
              refine ⟨.node w [], o, rfl, rfl, hb, ?_, ?_, trivial⟩
              · show 0 + 1 ≤ d + 1; omega
              · show 0 + 3 ≤ N0 d; exact N0_le d
            · simp_arith
              refine wf_mono (some_ok hb (hne h) (by simpa using h1)) ?_
              rintro _ _ ⟨x, o, rfl, rfl, hx, hb⟩
              obtain ⟨z, hz, rfl⟩ := List.mem_map.mp hx
              simp_arith
              exact ⟨.gift z, o, rfl, rfl, hb, Nat.zero_le _, N0_le d, hz⟩
        · exact ⟨o, rfl, hb, hc h⟩
    · rintro s ⟨o, rfl, hb, hd0⟩
      simp_arith
      refine wf_mono (some_ok hb (by simp) (by decide)) ?_
      rintro _ _ ⟨x, o, rfl, rfl, hx, hb⟩
      have hw : ∃ w, x = .str (wd w) := by
        simp only [List.mem_cons, List.not_mem_nil, or_false] at hx
        rcases hx with rfl | rfl
        · exact ⟨true, rfl⟩
        · exact ⟨false, rfl⟩
      obtain ⟨w, rfl⟩ := hw
      obtain ⟨e, rfl⟩ : ∃ e, d = e + 1 := ⟨d - 1, by omega⟩
      simp_arith
      refine wp_comp ?_
      simp_arith
      refine wf_mono (take_ok hb (by decide) (by decide)) ?_
      rintro _ _ ⟨k, o, rfl, rfl, k0, k1, hb⟩
      simp_arith
      · refine ⟨fun xs ys s => ∃ fs o, s = ⟨[.loc 0, .d (.list (ns.map .str)), .d (.int (e + 1 : Nat)), .d (.int v), .d (.str (wd w)), .un], [o]⟩ ∧ ys = encs fs ∧ Bag o ∧ fds fs ≤ e + 1 ∧ szs fs + xs.length * N0 e ≤ 3 * N0 e ∧ Ons (· ∈ ns) fs ∧ fs.length + xs.length ≤ 3, fun _ _ _ _ => trivial, ⟨[], o, rfl, rfl, hb, Nat.zero_le _, ?_, trivial, ?_⟩, ?_, ?_⟩
        · rw [rangeD_length, szs, Nat.zero_add]
          exact Nat.mul_le_mul_right _ (by omega)
        · rw [rangeD_length]; simp; omega
        · rintro ys s ⟨fs, o, rfl, rfl, hb, h3, h4, h5, h6⟩
          simp_arith
          refine ⟨.node w fs, o, rfl, rfl, hb, ?_, ?_, h5⟩
          · show fds fs + 1 ≤ e + 1 + 1; omega
          · show szs fs + 3 ≤ 3 + 3 * N0 e
            simp only [List.length_nil, Nat.zero_mul] at h4
            omega
        · rintro y xs ys s ⟨fs, o, rfl, rfl, hb, h3, h4, h5, h6⟩
          refine ⟨_, rfl, ?_⟩
          simp_arith
          rw [show (((e + 1 : Nat) : Int) - 1) = (e : Int) by omega]
          refine wf_mono (formula_ok h1 hs n e o (by omega) hb) ?_
          rintro _ _ ⟨f, o, rfl, rfl, hb, g1, g2, g3⟩
          refine ⟨_, rfl, fs ++ [f], o, rfl, ?_, hb, ?_, ?_, ?_, ?_⟩
          · rw [encs_app]; rfl
          · rw [fds_app]; simp only [fds]; omega
          · rw [szs_app]
            simp only [szs, List.length_cons] at h4 ⊢
            rw [Nat.succ_mul] at h4
            omega
          · rw [Ons_app]; exact ⟨h5, g3, trivial⟩
          · simp only [List.length_append, List.length_cons, List.length_nil] at h6 ⊢; omega
end Lk01
set_option Elab.async false
set_option linter.all false
set_option maxRecDepth 100000
set_option maxHeartbeats 400000
namespace Lk01
open PySem PySem.Spec PyProof.Rows L2 RA
local macro_rules
  | `(tactic| contradiction) => `(tactic| (first | decide +kernel | omega | assumption | exact sh_shaped (by assumption) | exact ⟨by omega, by omega⟩ | exact Or.inl (by decide) | exact Or.inr (by decide) | exact szl (by omega) | exact szl (by simp only [List.length_map, List.length_append, List.length_cons, List.length_nil]; omega)))
local macro_rules
  | `(tactic| infer_instance) => `(tactic| (first | (with_reducible (first | refine wp_C ?_ | refine wp_m2 ?_ | refine wp_m1 ?_ | refine wp_B ?_ | refine isB_ok ?_ | refine if_tt ?_ | refine if_ff ?_ | refine isV_v ?_ | refine isO_o ?_ | refine ws_seq ?_ | refine ws_nil ?_ | refine wp_nil ?_ | refine wp_cons ?_ | refine wp_call ?_ | refine wp_callF ?_ | refine ws_if ?_ | refine ws_ret ?_ | refine ws_set ?_ | refine toSl_d ?_ | refine wp_tup ?_ | refine wp_lst ?_ | refine wp_frz ?_ | refine isFr_l ?_ | refine isFr_k ?_ | refine wp_and ?_ | refine wp_or ?_ | refine wp_not ?_ | refine wp_andV ?_ | refine wp_orV ?_ | refine wp_notV ?_ | refine wp_if ?_ | refine wp_eqI ?_ | refine wp_neI ?_ | refine wp_neB ?_ | refine wp_eqB ?_ | refine wp_addI ?_ | refine wp_subI ?_ | refine wp_ltI ?_ | refine wp_leI ?_ | refine wp_gtI ?_ | refine wp_geI ?_ | refine wp_int ?_ | refine wp_opI ?_ | refine wp_neg ?_ | refine wp_chain ?_ | refine ws_expr ?_ | refine ws_retF ?_ | refine ws_own ?_ | refine ws_loc ?_ | refine ws_frz ?_ | refine ws_unp ?_ | refine ws_FF ?_ | refine ws_FV ?_ | refine ws_VF ?_ | refine ws_par ?_ | refine ws_store ?_ | refine ws_augS ?_ | refine ws_storeK ?_ | refine ws_forK ?_ | refine wp_oN ?_ | refine wp_oS ?_ | refine isI_ok ?_ | refine wp_sl ?_ | refine wp_mt ?_ | refine wp_mt0 ?_ | refine wp_src ?_ | refine wp_items ?_ | refine wp_itemsA ?_ | refine wp_enum ?_ | refine wp_zip ?_ | refine wp_yes ?_ | refine wp_kget ?_ | refine wp_enumL ?_ | refine wp_itemL ?_ | refine wp_itemT ?_)) | ((with_reducible apply wp_V); rfl) | ((with_reducible apply ws_aug); rfl) | ((with_reducible apply wp_isi); rfl) | ((with_reducible apply wp_O); rfl) | ((with_reducible apply wp_d); rfl) | ((with_reducible apply wp_l); rfl) | ((with_reducible apply wp_o); rfl) | ((with_reducible apply wp_f); rfl)  | (focus ((with_reducible refine wp_eqS ?_ ?_ ?_); rotate_left; contradiction; contradiction)) | (focus ((with_reducible refine wp_neS ?_ ?_ ?_); rotate_left; contradiction; contradiction)) | (focus ((with_reducible refine wp_mod ?_ ?_); rotate_left; contradiction)) | (focus ((with_reducible refine wp_fdiv ?_ ?_ ?_); rotate_left; contradiction; contradiction)) | (focus ((with_reducible refine wp_mul ?_ ?_); rotate_left; contradiction)) | (focus ((with_reducible refine wp_powI ?_ ?_); rotate_left; contradiction)) | (focus ((with_reducible refine wp_addL ?_ ?_); rotate_left; contradiction)) | (focus ((with_reducible refine wp_addT ?_ ?_); rotate_left; contradiction)) | (focus ((with_reducible refine wp_range1 ?_ ?_); rotate_left; contradiction)) | ((with_reducible apply isDs_ok); rfl; exact Nat.le_of_ble_eq_true rfl) | ((with_reducible apply isAt_ok); rfl) | ((with_reducible apply isMt_ok); rfl) | (focus ((with_reducible apply wp_app); rfl; rotate_left; first | contradiction | rotate_left)) | (focus ((with_reducible apply wp_extT); rfl; rotate_left; first | contradiction | rotate_left)) | (focus ((with_reducible apply wp_extA); rfl; rfl; rotate_left; first | contradiction | rotate_left)) | refine wp_ok ?_))
local macro_rules
  | `(tactic| simp_arith) => `(tactic| repeat infer_instance)
local macro_rules
  | `(tactic| simp_all_arith) => `(tactic| repeat (first | (fail_if_success (with_reducible refine ws_if ?_)); infer_instance))
local macro_rules
  | `(tactic| simp_arith [$a0:term]) => `(tactic| repeat (first | (with_reducible (first | refine wp_C ?_ | refine wp_m2 ?_ | refine wp_m1 ?_ | refine wp_B ?_ | refine isB_ok ?_ | refine if_tt ?_ | refine if_ff ?_ | refine isV_v ?_ | refine isO_o ?_ | refine ws_seq ?_ | refine ws_nil ?_ | refine wp_nil ?_ | refine wp_cons ?_ | refine wp_call ?_ | refine wp_callF ?_ | refine ws_if ?_ | refine ws_ret ?_ | refine ws_set ?_ | refine toSl_d ?_ | refine wp_tup ?_ | refine wp_lst ?_ | refine wp_frz ?_ | refine isFr_l ?_ | refine isFr_k ?_ | refine wp_and ?_ | refine wp_or ?_ | refine wp_not ?_ | refine wp_andV ?_ | refine wp_orV ?_ | refine wp_notV ?_ | refine wp_if ?_ | refine wp_eqI ?_ | refine wp_neI ?_ | refine wp_neB ?_ | refine wp_eqB ?_ | refine wp_addI ?_ | refine wp_subI ?_ | refine wp_ltI ?_ | refine wp_leI ?_ | refine wp_gtI ?_ | refine wp_geI ?_ | refine wp_int ?_ | refine wp_opI ?_ | refine wp_neg ?_ | refine wp_chain ?_ | refine ws_expr ?_ | refine ws_retF ?_ | refine ws_own ?_ | refine ws_loc ?_ | refine ws_frz ?_ | refine ws_unp ?_ | refine ws_FF ?_ | refine ws_FV ?_ | refine ws_VF ?_ | refine ws_par ?_ | refine ws_store ?_ | refine ws_augS ?_ | refine ws_storeK ?_ | refine ws_forK ?_ | refine wp_oN ?_ | refine wp_oS ?_ | refine isI_ok ?_ | refine wp_sl ?_ | refine wp_mt ?_ | refine wp_mt0 ?_ | refine wp_src ?_ | refine wp_items ?_ | refine wp_itemsA ?_ | refine wp_enum ?_ | refine wp_zip ?_ | refine wp_yes ?_ | refine wp_kget ?_ | refine wp_enumL ?_ | refine wp_itemL ?_ | refine wp_itemT ?_)) | ((with_reducible apply wp_is0 $a0); rfl) | infer_instance))
local macro_rules
  | `(tactic| simp_arith [$a0:term, $a1:term]) => `(tactic| repeat (first | (with_reducible (first | refine wp_C ?_ | refine wp_m2 ?_ | refine wp_m1 ?_ | refine wp_B ?_ | refine isB_ok ?_ | refine if_tt ?_ | refine if_ff ?_ | refine isV_v ?_ | refine isO_o ?_ | refine ws_seq ?_ | refine ws_nil ?_ | refine wp_nil ?_ | refine wp_cons ?_ | refine wp_call ?_ | refine wp_callF ?_ | refine ws_if ?_ | refine ws_ret ?_ | refine ws_set ?_ | refine toSl_d ?_ | refine wp_tup ?_ | refine wp_lst ?_ | refine wp_frz ?_ | refine isFr_l ?_ | refine isFr_k ?_ | refine wp_and ?_ | refine wp_or ?_ | refine wp_not ?_ | refine wp_andV ?_ | refine wp_orV ?_ | refine wp_notV ?_ | refine wp_if ?_ | refine wp_eqI ?_ | refine wp_neI ?_ | refine wp_neB ?_ | refine wp_eqB ?_ | refine wp_addI ?_ | refine wp_subI ?_ | refine wp_ltI ?_ | refine wp_leI ?_ | refine wp_gtI ?_ | refine wp_geI ?_ | refine wp_int ?_ | refine wp_opI ?_ | refine wp_neg ?_ | refine wp_chain ?_ | refine ws_expr ?_ | refine ws_retF ?_ | refine ws_own ?_ | refine ws_loc ?_ | refine ws_frz ?_ | refine ws_unp ?_ | refine ws_FF ?_ | refine ws_FV ?_ | refine ws_VF ?_ | refine ws_par ?_ | refine ws_store ?_ | refine ws_augS ?_ | refine ws_storeK ?_ | refine ws_forK ?_ | refine wp_oN ?_ | refine wp_oS ?_ | refine isI_ok ?_ | refine wp_sl ?_ | refine wp_mt ?_ | refine wp_mt0 ?_ | refine wp_src ?_ | refine wp_items ?_ | refine wp_itemsA ?_ | refine wp_enum ?_ | refine wp_zip ?_ | refine wp_yes ?_ | refine wp_kget ?_ | refine wp_enumL ?_ | refine wp_itemL ?_ | refine wp_itemT ?_)) | ((with_reducible apply wp_is0 $a0); rfl) | ((with_reducible apply wp_is0 $a1); rfl) | infer_instance))
local macro_rules
  | `(tactic| simp_arith [$a0:term, $a1:term, $a2:term]) => `(tactic| repeat (first | (with_reducible (first | refine wp_C ?_ | refine wp_m2 ?_ | refine wp_m1 ?_ | refine wp_B ?_ | refine isB_ok ?_ | refine if_tt ?_ | refine if_ff ?_ | refine isV_v ?_ | refine isO_o ?_ | refine ws_seq ?_ | refine ws_nil ?_ | refine wp_nil ?_ | refine wp_cons ?_ | refine wp_call ?_ | refine wp_callF ?_ | refine ws_if ?_ | refine ws_ret ?_ | refine ws_set ?_ | refine toSl_d ?_ | refine wp_tup ?_ | refine wp_lst ?_ | refine wp_frz ?_ | refine isFr_l ?_ | refine isFr_k ?_ | refine wp_and ?_ | refine wp_or ?_ | refine wp_not ?_ | refine wp_andV ?_ | refine wp_orV ?_ | refine wp_notV ?_ | refine wp_if ?_ | refine wp_eqI ?_ | refine wp_neI ?_ | refine wp_neB ?_ | refine wp_eqB ?_ | refine wp_addI ?_ | refine wp_subI ?_ | refine wp_ltI ?_ | refine wp_leI ?_ | refine wp_gtI ?_ | refine wp_geI ?_ | refine wp_int ?_ | refine wp_opI ?_ | refine wp_neg ?_ | refine wp_chain ?_ | refine ws_expr ?_ | refine ws_retF ?_ | refine ws_own ?_ | refine ws_loc ?_ | refine ws_frz ?_ | refine ws_unp ?_ | refine ws_FF ?_ | refine ws_FV ?_ | refine ws_VF ?_ | refine ws_par ?_ | refine ws_store ?_ | refine ws_augS ?_ | refine ws_storeK ?_ | refine ws_forK ?_ | refine wp_oN ?_ | refine wp_oS ?_ | refine isI_ok ?_ | refine wp_sl ?_ | refine wp_mt ?_ | refine wp_mt0 ?_ | refine wp_src ?_ | refine wp_items ?_ | refine wp_itemsA ?_ | refine wp_enum ?_ | refine wp_zip ?_ | refine wp_yes ?_ | refine wp_kget ?_ | refine wp_enumL ?_ | refine wp_itemL ?_ | refine wp_itemT ?_)) | ((with_reducible apply wp_is0 $a0); rfl) | ((with_reducible apply wp_is0 $a1); rfl) | ((with_reducible apply wp_is0 $a2); rfl) | infer_instance))
local macro_rules
  | `(tactic| simp_arith [$a0:term, $a1:term, $a2:term, $a3:term]) => `(tactic| repeat (first | (with_reducible (first | refine wp_C ?_ | refine wp_m2 ?_ | refine wp_m1 ?_ | refine wp_B ?_ | refine isB_ok ?_ | refine if_tt ?_ | refine if_ff ?_ | refine isV_v ?_ | refine isO_o ?_ | refine ws_seq ?_ | refine ws_nil ?_ | refine wp_nil ?_ | refine wp_cons ?_ | refine wp_call ?_ | refine wp_callF ?_ | refine ws_if ?_ | refine ws_ret ?_ | refine ws_set ?_ | refine toSl_d ?_ | refine wp_tup ?_ | refine wp_lst ?_ | refine wp_frz ?_ | refine isFr_l ?_ | refine isFr_k ?_ | refine wp_and ?_ | refine wp_or ?_ | refine wp_not ?_ | refine wp_andV ?_ | refine wp_orV ?_ | refine wp_notV ?_ | refine wp_if ?_ | refine wp_eqI ?_ | refine wp_neI ?_ | refine wp_neB ?_ | refine wp_eqB ?_ | refine wp_addI ?_ | refine wp_subI ?_ | refine wp_ltI ?_ | refine wp_leI ?_ | refine wp_gtI ?_ | refine wp_geI ?_ | refine wp_int ?_ | refine wp_opI ?_ | refine wp_neg ?_ | refine wp_chain ?_ | refine ws_expr ?_ | refine ws_retF ?_ | refine ws_own ?_ | refine ws_loc ?_ | refine ws_frz ?_ | refine ws_unp ?_ | refine ws_FF ?_ | refine ws_FV ?_ | refine ws_VF ?_ | refine ws_par ?_ | refine ws_store ?_ | refine ws_augS ?_ | refine ws_storeK ?_ | refine ws_forK ?_ | refine wp_oN ?_ | refine wp_oS ?_ | refine isI_ok ?_ | refine wp_sl ?_ | refine wp_mt ?_ | refine wp_mt0 ?_ | refine wp_src ?_ | refine wp_items ?_ | refine wp_itemsA ?_ | refine wp_enum ?_ | refine wp_zip ?_ | refine wp_yes ?_ | refine wp_kget ?_ | refine wp_enumL ?_ | refine wp_itemL ?_ | refine wp_itemT ?_)) | ((with_reducible apply wp_is0 $a0); rfl) | ((with_reducible apply wp_is0 $a1); rfl) | ((with_reducible apply wp_is0 $a2); rfl) | ((with_reducible apply wp_is0 $a3); rfl) | infer_instance))
local macro_rules
  | `(tactic| simp_arith [$a0:term, $a1:term, $a2:term, $a3:term, $a4:term]) => `(tactic| repeat (first | (with_reducible (first | refine wp_C ?_ | refine wp_m2 ?_ | refine wp_m1 ?_ | refine wp_B ?_ | refine isB_ok ?_ | refine if_tt ?_ | refine if_ff ?_ | refine isV_v ?_ | refine isO_o ?_ | refine ws_seq ?_ | refine ws_nil ?_ | refine wp_nil ?_ | refine wp_cons ?_ | refine wp_call ?_ | refine wp_callF ?_ | refine ws_if ?_ | refine ws_ret ?_ | refine ws_set ?_ | refine toSl_d ?_ | refine wp_tup ?_ | refine wp_lst ?_ | refine wp_frz ?_ | refine isFr_l ?_ | refine isFr_k ?_ | refine wp_and ?_ | refine wp_or ?_ | refine wp_not ?_ | refine wp_andV ?_ | refine wp_orV ?_ | refine wp_notV ?_ | refine wp_if ?_ | refine wp_eqI ?_ | refine wp_neI ?_ | refine wp_neB ?_ | refine wp_eqB ?_ | refine wp_addI ?_ | refine wp_subI ?_ | refine wp_ltI ?_ | refine wp_leI ?_ | refine wp_gtI ?_ | refine wp_geI ?_ | refine wp_int ?_ | refine wp_opI ?_ | refine wp_neg ?_ | refine wp_chain ?_ | refine ws_expr ?_ | refine ws_retF ?_ | refine ws_own ?_ | refine ws_loc ?_ | refine ws_frz ?_ | refine ws_unp ?_ | refine ws_FF ?_ | refine ws_FV ?_ | refine ws_VF ?_ | refine ws_par ?_ | refine ws_store ?_ | refine ws_augS ?_ | refine ws_storeK ?_ | refine ws_forK ?_ | refine wp_oN ?_ | refine wp_oS ?_ | refine isI_ok ?_ | refine wp_sl ?_ | refine wp_mt ?_ | refine wp_mt0 ?_ | refine wp_src ?_ | refine wp_items ?_ | refine wp_itemsA ?_ | refine wp_enum ?_ | refine wp_zip ?_ | refine wp_yes ?_ | refine wp_kget ?_ | refine wp_enumL ?_ | refine wp_itemL ?_ | refine wp_itemT ?_)) | ((with_reducible apply wp_is0 $a0); rfl) | ((with_reducible apply wp_is0 $a1); rfl) | ((with_reducible apply wp_is0 $a2); rfl) | ((with_reducible apply wp_is0 $a3); rfl) | ((with_reducible apply wp_is0 $a4); rfl) | infer_instance))
local macro_rules
  | `(tactic| simp_arith [$a0:term, $a1:term, $a2:term, $a3:term, $a4:term, $a5:term]) => `(tactic| repeat (first | (with_reducible (first | refine wp_C ?_ | refine wp_m2 ?_ | refine wp_m1 ?_ | refine wp_B ?_ | refine isB_ok ?_ | refine if_tt ?_ | refine if_ff ?_ | refine isV_v ?_ | refine isO_o ?_ | refine ws_seq ?_ | refine ws_nil ?_ | refine wp_nil ?_ | refine wp_cons ?_ | refine wp_call ?_ | refine wp_callF ?_ | refine ws_if ?_ | refine ws_ret ?_ | refine ws_set ?_ | refine toSl_d ?_ | refine wp_tup ?_ | refine wp_lst ?_ | refine wp_frz ?_ | refine isFr_l ?_ | refine isFr_k ?_ | refine wp_and ?_ | refine wp_or ?_ | refine wp_not ?_ | refine wp_andV ?_ | refine wp_orV ?_ | refine wp_notV ?_ | refine wp_if ?_ | refine wp_eqI ?_ | refine wp_neI ?_ | refine wp_neB ?_ | refine wp_eqB ?_ | refine wp_addI ?_ | refine wp_subI ?_ | refine wp_ltI ?_ | refine wp_leI ?_ | refine wp_gtI ?_ | refine wp_geI ?_ | refine wp_int ?_ | refine wp_opI ?_ | refine wp_neg ?_ | refine wp_chain ?_ | refine ws_expr ?_ | refine ws_retF ?_ | refine ws_own ?_ | refine ws_loc ?_ | refine ws_frz ?_ | refine ws_unp ?_ | refine ws_FF ?_ | refine ws_FV ?_ | refine ws_VF ?_ | refine ws_par ?_ | refine ws_store ?_ | refine ws_augS ?_ | refine ws_storeK ?_ | refine ws_forK ?_ | refine wp_oN ?_ | refine wp_oS ?_ | refine isI_ok ?_ | refine wp_sl ?_ | refine wp_mt ?_ | refine wp_mt0 ?_ | refine wp_src ?_ | refine wp_items ?_ | refine wp_itemsA ?_ | refine wp_enum ?_ | refine wp_zip ?_ | refine wp_yes ?_ | refine wp_kget ?_ | refine wp_enumL ?_ | refine wp_itemL ?_ | refine wp_itemT ?_)) | ((with_reducible apply wp_is0 $a0); rfl) | ((with_reducible apply wp_is0 $a1); rfl) | ((with_reducible apply wp_is0 $a2); rfl) | ((with_reducible apply wp_is0 $a3); rfl) | ((with_reducible apply wp_is0 $a4); rfl) | ((with_reducible apply wp_is0 $a5); rfl) | infer_instance))
local macro_rules
  | `(tactic| simp_arith [$a0:term, $a1:term, $a2:term, $a3:term, $a4:term, $a5:term, $a6:term]) => `(tactic| repeat (first | (with_reducible (first | refine wp_C ?_ | refine wp_m2 ?_ | refine wp_m1 ?_ | refine wp_B ?_ | refine isB_ok ?_ | refine if_tt ?_ | refine if_ff ?_ | refine isV_v ?_ | refine isO_o ?_ | refine ws_seq ?_ | refine ws_nil ?_ | refine wp_nil ?_ | refine wp_cons ?_ | refine wp_call ?_ | refine wp_callF ?_ | refine ws_if ?_ | refine ws_ret ?_ | refine ws_set ?_ | refine toSl_d ?_ | refine wp_tup ?_ | refine wp_lst ?_ | refine wp_frz ?_ | refine isFr_l ?_ | refine isFr_k ?_ | refine wp_and ?_ | refine wp_or ?_ | refine wp_not ?_ | refine wp_andV ?_ | refine wp_orV ?_ | refine wp_notV ?_ | refine wp_if ?_ | refine wp_eqI ?_ | refine wp_neI ?_ | refine wp_neB ?_ | refine wp_eqB ?_ | refine wp_addI ?_ | refine wp_subI ?_ | refine wp_ltI ?_ | refine wp_leI ?_ | refine wp_gtI ?_ | refine wp_geI ?_ | refine wp_int ?_ | refine wp_opI ?_ | refine wp_neg ?_ | refine wp_chain ?_ | refine ws_expr ?_ | refine ws_retF ?_ | refine ws_own ?_ | refine ws_loc ?_ | refine ws_frz ?_ | refine ws_unp ?_ | refine ws_FF ?_ | refine ws_FV ?_ | refine ws_VF ?_ | refine ws_par ?_ | refine ws_store ?_ | refine ws_augS ?_ | refine ws_storeK ?_ | refine ws_forK ?_ | refine wp_oN ?_ | refine wp_oS ?_ | refine isI_ok ?_ | refine wp_sl ?_ | refine wp_mt ?_ | refine wp_mt0 ?_ | refine wp_src ?_ | refine wp_items ?_ | refine wp_itemsA ?_ | refine wp_enum ?_ | refine wp_zip ?_ | refine wp_yes ?_ | refine wp_kget ?_ | refine wp_enumL ?_ | refine wp_itemL ?_ | refine wp_itemT ?_)) | ((with_reducible apply wp_is0 $a0); rfl) | ((with_reducible apply wp_is0 $a1); rfl) | ((with_reducible apply wp_is0 $a2); rfl) | ((with_reducible apply wp_is0 $a3); rfl) | ((with_reducible apply wp_is0 $a4); rfl) | ((with_reducible apply wp_is0 $a5); rfl) | ((with_reducible apply wp_is0 $a6); rfl) | infer_instance))
local macro_rules
  | `(tactic| simp_arith [$a0:term, $a1:term, $a2:term, $a3:term, $a4:term, $a5:term, $a6:term, $a7:term]) => `(tactic| repeat (first | (with_reducible (first | refine wp_C ?_ | refine wp_m2 ?_ | refine wp_m1 ?_ | refine wp_B ?_ | refine isB_ok ?_ | refine if_tt ?_ | refine if_ff ?_ | refine isV_v ?_ | refine isO_o ?_ | refine ws_seq ?_ | refine ws_nil ?_ | refine wp_nil ?_ | refine wp_cons ?_ | refine wp_call ?_ | refine wp_callF ?_ | refine ws_if ?_ | refine ws_ret ?_ | refine ws_set ?_ | refine toSl_d ?_ | refine wp_tup ?_ | refine wp_lst ?_ | refine wp_frz ?_ | refine isFr_l ?_ | refine isFr_k ?_ | refine wp_and ?_ | refine wp_or ?_ | refine wp_not ?_ | refine wp_andV ?_ | refine wp_orV ?_ | refine wp_notV ?_ | refine wp_if ?_ | refine wp_eqI ?_ | refine wp_neI ?_ | refine wp_neB ?_ | refine wp_eqB ?_ | refine wp_addI ?_ | refine wp_subI ?_ | refine wp_ltI ?_ | refine wp_leI ?_ | refine wp_gtI ?_ | refine wp_geI ?_ | refine wp_int ?_ | refine wp_opI ?_ | refine wp_neg ?_ | refine wp_chain ?_ | refine ws_expr ?_ | refine ws_retF ?_ | refine ws_own ?_ | refine ws_loc ?_ | refine ws_frz ?_ | refine ws_unp ?_ | refine ws_FF ?_ | refine ws_FV ?_ | refine ws_VF ?_ | refine ws_par ?_ | refine ws_store ?_ | refine ws_augS ?_ | refine ws_storeK ?_ | refine ws_forK ?_ | refine wp_oN ?_ | refine wp_oS ?_ | refine isI_ok ?_ | refine wp_sl ?_ | refine wp_mt ?_ | refine wp_mt0 ?_ | refine wp_src ?_ | refine wp_items ?_ | refine wp_itemsA ?_ | refine wp_enum ?_ | refine wp_zip ?_ | refine wp_yes ?_ | refine wp_kget ?_ | refine wp_enumL ?_ | refine wp_itemL ?_ | refine wp_itemT ?_)) | ((with_reducible apply wp_is0 $a0); rfl) | ((with_reducible apply wp_is0 $a1); rfl) | ((with_reducible apply wp_is0 $a2); rfl) | ((with_reducible apply wp_is0 $a3); rfl) | ((with_reducible apply wp_is0 $a4); rfl) | ((with_reducible apply wp_is0 $a5); rfl) | ((with_reducible apply wp_is0 $a6); rfl) | ((with_reducible apply wp_is0 $a7); rfl) | infer_instance))
local macro_rules
  | `(tactic| array_get_dec) => `(tactic| (first | (with_reducible (first | apply pv_C | apply pv_kt | apply pl_nil | apply tb_yes | apply pi_N | apply po_dnew | apply pv_m2 | apply pv_m1 | apply pl_cons | apply pv_call | apply po_callF | apply pv_frzL | apply tb_B | apply tb_not | apply pv_notV | apply pi_S | apply pv_sl | apply pj_itemsA | apply pj_items | apply pj_enum | apply pj_src | apply pj_zip | apply pv_tup | apply po_lst | apply a_eqI | apply a_neI | apply a_eqB | apply a_neB | apply a_addI | apply a_subI | apply a_leI | apply a_ltI | apply a_gtI | apply a_geI | apply a_ltS | apply a_lenL | apply a_lenT | apply a_tuple | apply a_tupT | apply a_listL | apply a_listT | apply a_intB | apply a_intI | apply a_slL | apply a_slT | apply a_isN | apply a_notN | apply aj_lst | apply aj_tup | apply aj_kt | apply aj_frz | apply aj_enumL | apply a_all | apply a_any | apply tb_and | apply tb_or | apply pv_andV | apply pv_orV | apply pv_chain | apply pv_ifD)) | ((with_reducible apply pv_d); rfl) | ((with_reducible apply pv_o); rfl) | ((with_reducible apply pv_f); rfl) | ((with_reducible apply pv_l); rfl) | ((with_reducible apply a_isi); first | rfl | assumption) | (focus ((with_reducible apply a_eqS); contradiction; contradiction)) | (focus ((with_reducible apply a_neS); contradiction; contradiction)) | (focus ((with_reducible apply a_addL); contradiction)) | (focus ((with_reducible apply a_addT); contradiction)) | (focus ((with_reducible apply a_lenS); contradiction)) | (focus ((with_reducible apply aj_str); contradiction)) | (focus ((with_reducible apply aj_range1); contradiction)) | (focus ((with_reducible apply aj_zipT); contradiction)) | (focus ((with_reducible apply aj_zipL); contradiction))))
local macro_rules
  | `(tactic| simp_arith!) => `(tactic| repeat (first | array_get_dec | exact tb_absF rfl | exact tb_absT rfl | exact pv_absF rfl | exact pv_absT rfl | exact a2_absT rfl | intro _ | exact (false : Bool) | ((with_reducible apply a_ix); rfl) | ((with_reducible apply a_ixL); rfl) | (exact Nat.le_of_ble_eq_true rfl) | exact rfl))
local macro_rules
  | `(tactic| simp_arith! [$a0:term]) => `(tactic| repeat (first | array_get_dec | ((with_reducible apply a_is0 $a0); rfl) | ((with_reducible apply a2_id); exact $a0) | ((with_reducible apply ao_id); exact $a0) | (with_reducible exact $a0) | exact tb_absF rfl | exact tb_absT rfl | exact pv_absF rfl | exact pv_absT rfl | exact a2_absT rfl | intro _ | exact (false : Bool) | ((with_reducible apply a_ix); rfl) | ((with_reducible apply a_ixL); rfl) | (exact Nat.le_of_ble_eq_true rfl) | exact rfl))
local macro_rules
  | `(tactic| simp_arith! [$a0:term, $a1:term]) => `(tactic| repeat (first | array_get_dec | ((with_reducible apply a_is0 $a0); rfl) | ((with_reducible apply a2_id); exact $a0) | ((with_reducible apply ao_id); exact $a0) | (with_reducible exact $a0) | ((with_reducible apply a_is0 $a1); rfl) | ((with_reducible apply a2_id); exact $a1) | ((with_reducible apply ao_id); exact $a1) | (with_reducible exact $a1) | exact tb_absF rfl | exact tb_absT rfl | exact pv_absF rfl | exact pv_absT rfl | exact a2_absT rfl | intro _ | exact (false : Bool) | ((with_reducible apply a_ix); rfl) | ((with_reducible apply a_ixL); rfl) | (exact Nat.le_of_ble_eq_true rfl) | exact rfl))
local macro_rules
  | `(tactic| simp_arith! [$a0:term, $a1:term, $a2:term]) => `(tactic| repeat (first | array_get_dec | ((with_reducible apply a_is0 $a0); rfl) | ((with_reducible apply a2_id); exact $a0) | ((with_reducible apply ao_id); exact $a0) | (with_reducible exact $a0) | ((with_reducible apply a_is0 $a1); rfl) | ((with_reducible apply a2_id); exact $a1) | ((with_reducible apply ao_id); exact $a1) | (with_reducible exact $a1) | ((with_reducible apply a_is0 $a2); rfl) | ((with_reducible apply a2_id); exact $a2) | ((with_reducible apply ao_id); exact $a2) | (with_reducible exact $a2) | exact tb_absF rfl | exact tb_absT rfl | exact pv_absF rfl | exact pv_absT rfl | exact a2_absT rfl | intro _ | exact (false : Bool) | ((with_reducible apply a_ix); rfl) | ((with_reducible apply a_ixL); rfl) | (exact Nat.le_of_ble_eq_true rfl) | exact rfl))
local macro_rules
  | `(tactic| simp_arith! [$a0:term, $a1:term, $a2:term, $a3:term]) => `(tactic| repeat (first | array_get_dec | ((with_reducible apply a_is0 $a0); rfl) | ((with_reducible apply a2_id); exact $a0) | ((with_reducible apply ao_id); exact $a0) | (with_reducible exact $a0) | ((with_reducible apply a_is0 $a1); rfl) | ((with_reducible apply a2_id); exact $a1) | ((with_reducible apply ao_id); exact $a1) | (with_reducible exact $a1) | ((with_reducible apply a_is0 $a2); rfl) | ((with_reducible apply a2_id); exact $a2) | ((with_reducible apply ao_id); exact $a2) | (with_reducible exact $a2) | ((with_reducible apply a_is0 $a3); rfl) | ((with_reducible apply a2_id); exact $a3) | ((with_reducible apply ao_id); exact $a3) | (with_reducible exact $a3) | exact tb_absF rfl | exact tb_absT rfl | exact pv_absF rfl | exact pv_absT rfl | exact a2_absT rfl | intro _ | exact (false : Bool) | ((with_reducible apply a_ix); rfl) | ((with_reducible apply a_ixL); rfl) | (exact Nat.le_of_ble_eq_true rfl) | exact rfl))
local macro_rules
  | `(tactic| simp_arith! [$a0:term, $a1:term, $a2:term, $a3:term, $a4:term]) => `(tactic| repeat (first | array_get_dec | ((with_reducible apply a_is0 $a0); rfl) | ((with_reducible apply a2_id); exact $a0) | ((with_reducible apply ao_id); exact $a0) | (with_reducible exact $a0) | ((with_reducible apply a_is0 $a1); rfl) | ((with_reducible apply a2_id); exact $a1) | ((with_reducible apply ao_id); exact $a1) | (with_reducible exact $a1) | ((with_reducible apply a_is0 $a2); rfl) | ((with_reducible apply a2_id); exact $a2) | ((with_reducible apply ao_id); exact $a2) | (with_reducible exact $a2) | ((with_reducible apply a_is0 $a3); rfl) | ((with_reducible apply a2_id); exact $a3) | ((with_reducible apply ao_id); exact $a3) | (with_reducible exact $a3) | ((with_reducible apply a_is0 $a4); rfl) | ((with_reducible apply a2_id); exact $a4) | ((with_reducible apply ao_id); exact $a4) | (with_reducible exact $a4) | exact tb_absF rfl | exact tb_absT rfl | exact pv_absF rfl | exact pv_absT rfl | exact a2_absT rfl | intro _ | exact (false : Bool) | ((with_reducible apply a_ix); rfl) | ((with_reducible apply a_ixL); rfl) | (exact Nat.le_of_ble_eq_true rfl) | exact rfl))
local macro_rules
  | `(tactic| simp_arith! [$a0:term, $a1:term, $a2:term, $a3:term, $a4:term, $a5:term]) => `(tactic| repeat (first | array_get_dec | ((with_reducible apply a_is0 $a0); rfl) | ((with_reducible apply a2_id); exact $a0) | ((with_reducible apply ao_id); exact $a0) | (with_reducible exact $a0) | ((with_reducible apply a_is0 $a1); rfl) | ((with_reducible apply a2_id); exact $a1) | ((with_reducible apply ao_id); exact $a1) | (with_reducible exact $a1) | ((with_reducible apply a_is0 $a2); rfl) | ((with_reducible apply a2_id); exact $a2) | ((with_reducible apply ao_id); exact $a2) | (with_reducible exact $a2) | ((with_reducible apply a_is0 $a3); rfl) | ((with_reducible apply a2_id); exact $a3) | ((with_reducible apply ao_id); exact $a3) | (with_reducible exact $a3) | ((with_reducible apply a_is0 $a4); rfl) | ((with_reducible apply a2_id); exact $a4) | ((with_reducible apply ao_id); exact $a4) | (with_reducible exact $a4) | ((with_reducible apply a_is0 $a5); rfl) | ((with_reducible apply a2_id); exact $a5) | ((with_reducible apply ao_id); exact $a5) | (with_reducible exact $a5) | exact tb_absF rfl | exact tb_absT rfl | exact pv_absF rfl | exact pv_absT rfl | exact a2_absT rfl | intro _ | exact (false : Bool) | ((with_reducible apply a_ix); rfl) | ((with_reducible apply a_ixL); rfl) | (exact Nat.le_of_ble_eq_true rfl) | exact rfl))
local macro_rules
  | `(tactic| simp_arith! [$a0:term, $a1:term, $a2:term, $a3:term, $a4:term, $a5:term, $a6:term]) => `(tactic| repeat (first | array_get_dec | ((with_reducible apply a_is0 $a0); rfl) | ((with_reducible apply a2_id); exact $a0) | ((with_reducible apply ao_id); exact $a0) | (with_reducible exact $a0) | ((with_reducible apply a_is0 $a1); rfl) | ((with_reducible apply a2_id); exact $a1) | ((with_reducible apply ao_id); exact $a1) | (with_reducible exact $a1) | ((with_reducible apply a_is0 $a2); rfl) | ((with_reducible apply a2_id); exact $a2) | ((with_reducible apply ao_id); exact $a2) | (with_reducible exact $a2) | ((with_reducible apply a_is0 $a3); rfl) | ((with_reducible apply a2_id); exact $a3) | ((with_reducible apply ao_id); exact $a3) | (with_reducible exact $a3) | ((with_reducible apply a_is0 $a4); rfl) | ((with_reducible apply a2_id); exact $a4) | ((with_reducible apply ao_id); exact $a4) | (with_reducible exact $a4) | ((with_reducible apply a_is0 $a5); rfl) | ((with_reducible apply a2_id); exact $a5) | ((with_reducible apply ao_id); exact $a5) | (with_reducible exact $a5) | ((with_reducible apply a_is0 $a6); rfl) | ((with_reducible apply a2_id); exact $a6) | ((with_reducible apply ao_id); exact $a6) | (with_reducible exact $a6) | exact tb_absF rfl | exact tb_absT rfl | exact pv_absF rfl | exact pv_absT rfl | exact a2_absT rfl | intro _ | exact (false : Bool) | ((with_reducible apply a_ix); rfl) | ((with_reducible apply a_ixL); rfl) | (exact Nat.le_of_ble_eq_true rfl) | exact rfl))
local macro_rules
  | `(tactic| simp_arith! [$a0:term, $a1:term, $a2:term, $a3:term, $a4:term, $a5:term, $a6:term, $a7:term]) => `(tactic| repeat (first | array_get_dec | ((with_reducible apply a_is0 $a0); rfl) | ((with_reducible apply a2_id); exact $a0) | ((with_reducible apply ao_id); exact $a0) | (with_reducible exact $a0) | ((with_reducible apply a_is0 $a1); rfl) | ((with_reducible apply a2_id); exact $a1) | ((with_reducible apply ao_id); exact $a1) | (with_reducible exact $a1) | ((with_reducible apply a_is0 $a2); rfl) | ((with_reducible apply a2_id); exact $a2) | ((with_reducible apply ao_id); exact $a2) | (with_reducible exact $a2) | ((with_reducible apply a_is0 $a3); rfl) | ((with_reducible apply a2_id); exact $a3) | ((with_reducible apply ao_id); exact $a3) | (with_reducible exact $a3) | ((with_reducible apply a_is0 $a4); rfl) | ((with_reducible apply a2_id); exact $a4) | ((with_reducible apply ao_id); exact $a4) | (with_reducible exact $a4) | ((with_reducible apply a_is0 $a5); rfl) | ((with_reducible apply a2_id); exact $a5) | ((with_reducible apply ao_id); exact $a5) | (with_reducible exact $a5) | ((with_reducible apply a_is0 $a6); rfl) | ((with_reducible apply a2_id); exact $a6) | ((with_reducible apply ao_id); exact $a6) | (with_reducible exact $a6) | ((with_reducible apply a_is0 $a7); rfl) | ((with_reducible apply a2_id); exact $a7) | ((with_reducible apply ao_id); exact $a7) | (with_reducible exact $a7) | exact tb_absF rfl | exact tb_absT rfl | exact pv_absF rfl | exact pv_absT rfl | exact a2_absT rfl | intro _ | exact (false : Bool) | ((with_reducible apply a_ix); rfl) | ((with_reducible apply a_ixL); rfl) | (exact Nat.le_of_ble_eq_true rfl) | exact rfl))
theorem alike_ok (d0 : D) (sto : List Ob) (h0 : nd d0 ≤ 100000) (hl : d0.canLay0 = true) : wf (F_l_alike [.d d0, .d d0] sto) fun r sto' => r = .v (.d (.bool true)) ∧ sto' = sto := by
  unfold F_l_alike
  refine wf_fun ?_
  simp_arith
  refine ws_while (fun n s => ∃ ps i x4 x5, s = ⟨[.d d0, .d d0, .own (.lst (ps.map dup)), .d (.int (i : Nat)), x4, x5], sto⟩ ∧ i ≤ ps.length ∧ nds (ps.drop i) = n ∧ (∀ d ∈ ps, d.canLay0 = true) ∧ i + n ≤ 200000) ?_ wFuel (nd d0) _ (by show nd d0 < 1000000; omega)
    ⟨[d0], 0, _, _, rfl, Nat.zero_le _, by simp [nds], fun d hd => by rw [List.mem_singleton.mp hd]; exact hl, by omega⟩
  rintro n s ⟨ps, i, x4, x5, rfl, hi, hn, hc, hb⟩
  simp_arith
  refine if_t (fun h => ?_) fun h => ?_
  · have h := of_decide_eq_true h
    have h' : i < ps.length := by
      rw [List.length_map] at h
      omega
    have hdr := List.drop_eq_getElem_cons h'
    rw [hdr, nds] at hn
    have hcd := hc _ (List.getElem_mem h')
    have hat : atI (ps.map dup) (i : Int) = some (dup ps[i]) := by
      obtain ⟨d, e1, _, e2⟩ := atI_nat' (xs := ps.map dup) (i := (i : Int)) (by omega) (by rw [List.length_map]; omega)
      rw [e1]
      rw [Int.toNat_natCast, List.getElem?_map, List.getElem?_eq_getElem h'] at e2
      exact e2.symm
    generalize ps[i] = d at hn hcd hat
    have hp := nd_pos d
    refine ⟨n - 1, by omega, ?_⟩
    simp_arith
    refine wp_ixO rfl hat ?_
    refine ⟨_, _, rfl, rfl, ?_⟩
    simp_arith
    have fin : nds (ps.drop (i + 1)) = n - 1 → ∃ (ps' : List D) (i' : Nat) (x4' x5' : Sl), (⟨[.d d0, .d d0, .own (.lst (ps.map dup)), .d (.int ((i : Int) + 1)), .d d, .d d], sto⟩ : S) = ⟨[.d d0, .d d0, .own (.lst (ps'.map dup)), .d (.int (i' : Nat)), x4', x5'], sto⟩ ∧ i' ≤ ps'.length ∧ nds (ps'.drop i') = n - 1 ∧ (∀ d ∈ ps', d.canLay0 = true) ∧ i' + (n - 1) ≤ 200000 := fun e =>
      ⟨ps, i + 1, _, _, rfl, h', e, hc, by omega⟩
    have many : ∀ xs : List D, nd d = nds xs + 1 → PyData.canLayAll0 xs = true → (∃ (ps' : List D) (i' : Nat) (x4' x5' : Sl), (⟨[.d d0, .d d0, .own (.lst (ps.map dup ++ pairD xs xs)), .d (.int ((i : Int) + 1)), .d d, .d d], sto⟩ : S) = ⟨[.d d0, .d d0, .own (.lst (ps'.map dup)), .d (.int (i' : Nat)), x4', x5'], sto⟩ ∧ i' ≤ ps'.length ∧ nds (ps'.drop i') = n - 1 ∧ (∀ d ∈ ps', d.canLay0 = true) ∧ i' + (n - 1) ≤ 200000) ∧
        (ps.map dup).length + (pairD xs xs).length ≤ sizeLine := fun xs e l => by
      have lx := nds_len xs
      have lp := nds_len (ps.drop (i + 1))
      rw [List.length_drop] at lp
      refine ⟨⟨ps ++ xs, i + 1, .d d, .d d, ?_, ?_, ?_, ?_, ?_⟩, ?_⟩
      · rw [pairD_dup, List.map_append]; rfl
      · rw [List.length_append]; omega
      · rw [List.drop_append_of_le_length (by omega), nds_app]; omega
      · intro x hx
        rcases List.mem_append.mp hx with hx | hx
        · exact hc x hx
        · exact lay_mem l hx
      · omega
      · rw [pairD_dup, List.length_map, List.length_map]
        exact Nat.le_trans (show _ ≤ 400000 by omega) (by decide)
    cases d with
    | none =>
      simp_arith
      (refine if_t (fun z => Bool.noConfusion (show false = true from z)) fun z => ?_)
      simp_arith
      (refine if_t (fun z => Bool.noConfusion (show false = true from z)) fun z => ?_)
      simp_arith
      (refine if_t (fun z => Bool.noConfusion (show false = true from z)) fun z => ?_)
      simp_arith
      (refine if_t (fun z => Bool.noConfusion (show false = true from z)) fun z => ?_)
      simp_arith
      exact fin (by simp only [nd] at hn; omega)
    | bool b =>
      simp_arith
      (refine if_t (fun z => Bool.noConfusion (show false = true from z)) fun z => ?_)
      simp_arith
      (refine if_t (fun z => Bool.noConfusion (show false = true from z)) fun z => ?_)
      simp_arith
      (refine if_t (fun z => Bool.noConfusion (show false = true from z)) fun z => ?_)
      simp_arith
      refine if_t (fun z => by simp at z) fun z => ?_
      simp_arith
      exact fin (by simp only [nd] at hn; omega)
    | int k =>
      simp_arith
      (refine if_t (fun z => Bool.noConfusion (show false = true from z)) fun z => ?_)
      simp_arith
      (refine if_t (fun z => Bool.noConfusion (show false = true from z)) fun z => ?_)
      simp_arith
      (refine if_t (fun z => Bool.noConfusion (show false = true from z)) fun z => ?_)
      simp_arith
      refine if_t (fun z => by simp at z) fun z => ?_
      simp_arith
      exact fin (by simp only [nd] at hn; omega)
    | str x =>
      have hx : SeqAt.shaped (.str x) = true := by
        unfold SeqAt.shaped
        rw [hcd, Bool.true_and]
        exact decide_eq_true (by simp [PyData.depth])
      simp_arith
      (refine if_t (fun z => Bool.noConfusion (show false = true from z)) fun z => ?_)
      simp_arith
      (refine if_t (fun z => Bool.noConfusion (show false = true from z)) fun z => ?_)
      simp_arith
      (refine if_t (fun z => Bool.noConfusion (show false = true from z)) fun z => ?_)
      simp_arith
      refine if_t (fun z => by simp at z) fun z => ?_
      simp_arith
      exact fin (by simp only [nd] at hn; omega)
    | list xs =>
      obtain ⟨m1, m2⟩ := many xs (by simp only [nd]) (by simpa only [PyData.canLay0] using hcd)
      simp_arith
      (refine if_t (fun z => Bool.noConfusion (show false = true from z)) fun z => ?_)
      simp_arith
      (refine if_t (fun z => Bool.noConfusion (show false = true from z)) fun z => ?_)
      simp_arith
      (refine if_t (fun z => ?_) fun z => Bool.noConfusion (show true = false from z))
      simp_arith
      refine if_t (fun z => by simp [PyData.eqv] at z) fun z => ?_
      simp_arith
      exact m1
    | tuple xs =>
      obtain ⟨m1, m2⟩ := many xs (by simp only [nd]) (by simpa only [PyData.canLay0] using hcd)
      simp_arith
      (refine if_t (fun z => Bool.noConfusion (show false = true from z)) fun z => ?_)
      simp_arith
      (refine if_t (fun z => Bool.noConfusion (show false = true from z)) fun z => ?_)
      simp_arith
      (refine if_t (fun z => ?_) fun z => Bool.noConfusion (show true = false from z))
      simp_arith
      refine if_t (fun z => by simp [PyData.eqv] at z) fun z => ?_
      simp_arith
      exact m1
    | dict kvs => simp only [PyData.canLay0] at hcd; cases hcd
  · have h := of_decide_eq_false h
    simp_arith
    exact ⟨rfl, List.take_length⟩
end Lk01
set_option Elab.async false
set_option linter.all false
set_option maxRecDepth 100000
set_option maxHeartbeats 400000
namespace Lk01
open PySem PySem.Spec PyProof.Rows L2 RA
local macro_rules
  | `(tactic| contradiction) => `(tactic| (first | decide +kernel | omega | assumption | exact sh_shaped (by assumption) | exact ⟨by omega, by omega⟩ | exact Or.inl (by decide) | exact Or.inr (by decide) | exact szl (by omega) | exact szl (by simp only [List.length_map, List.length_append, List.length_cons, List.length_nil]; omega)))
local macro_rules
  | `(tactic| infer_instance) => `(tactic| (first | (with_reducible (first | refine wp_C ?_ | refine wp_m2 ?_ | refine wp_m1 ?_ | refine wp_B ?_ | refine isB_ok ?_ | refine if_tt ?_ | refine if_ff ?_ | refine isV_v ?_ | refine isO_o ?_ | refine ws_seq ?_ | refine ws_nil ?_ | refine wp_nil ?_ | refine wp_cons ?_ | refine wp_call ?_ | refine wp_callF ?_ | refine ws_if ?_ | refine ws_ret ?_ | refine ws_set ?_ | refine toSl_d ?_ | refine wp_tup ?_ | refine wp_lst ?_ | refine wp_frz ?_ | refine isFr_l ?_ | refine isFr_k ?_ | refine wp_and ?_ | refine wp_or ?_ | refine wp_not ?_ | refine wp_andV ?_ | refine wp_orV ?_ | refine wp_notV ?_ | refine wp_if ?_ | refine wp_eqI ?_ | refine wp_neI ?_ | refine wp_neB ?_ | refine wp_eqB ?_ | refine wp_addI ?_ | refine wp_subI ?_ | refine wp_ltI ?_ | refine wp_leI ?_ | refine wp_gtI ?_ | refine wp_geI ?_ | refine wp_int ?_ | refine wp_opI ?_ | refine wp_neg ?_ | refine wp_chain ?_ | refine ws_expr ?_ | refine ws_retF ?_ | refine ws_own ?_ | refine ws_loc ?_ | refine ws_frz ?_ | refine ws_unp ?_ | refine ws_FF ?_ | refine ws_FV ?_ | refine ws_VF ?_ | refine ws_par ?_ | refine ws_store ?_ | refine ws_augS ?_ | refine ws_storeK ?_ | refine ws_forK ?_ | refine wp_oN ?_ | refine wp_oS ?_ | refine isI_ok ?_ | refine wp_sl ?_ | refine wp_mt ?_ | refine wp_mt0 ?_ | refine wp_src ?_ | refine wp_items ?_ | refine wp_itemsA ?_ | refine wp_enum ?_ | refine wp_zip ?_ | refine wp_yes ?_ | refine wp_kget ?_ | refine wp_enumL ?_ | refine wp_itemL ?_ | refine wp_itemT ?_)) | ((with_reducible apply wp_V); rfl) | ((with_reducible apply ws_aug); rfl) | ((with_reducible apply wp_isi); rfl) | ((with_reducible apply wp_O); rfl) | ((with_reducible apply wp_d); rfl) | ((with_reducible apply wp_l); rfl) | ((with_reducible apply wp_o); rfl) | ((with_reducible apply wp_f); rfl)  | (focus ((with_reducible refine wp_eqS ?_ ?_ ?_); rotate_left; contradiction; contradiction)) | (focus ((with_reducible refine wp_neS ?_ ?_ ?_); rotate_left; contradiction; contradiction)) | (focus ((with_reducible refine wp_mod ?_ ?_); rotate_left; contradiction)) | (focus ((with_reducible refine wp_fdiv ?_ ?_ ?_); rotate_left; contradiction; contradiction)) | (focus ((with_reducible refine wp_mul ?_ ?_); rotate_left; contradiction)) | (focus ((with_reducible refine wp_powI ?_ ?_); rotate_left; contradiction)) | (focus ((with_reducible refine wp_addL ?_ ?_); rotate_left; contradiction)) | (focus ((with_reducible refine wp_addT ?_ ?_); rotate_left; contradiction)) | (focus ((with_reducible refine wp_range1 ?_ ?_); rotate_left; contradiction)) | ((with_reducible apply isDs_ok); rfl; exact Nat.le_of_ble_eq_true rfl) | ((with_reducible apply isAt_ok); rfl) | ((with_reducible apply isMt_ok); rfl) | (focus ((with_reducible apply wp_app); rfl; rotate_left; first | contradiction | rotate_left)) | (focus ((with_reducible apply wp_extT); rfl; rotate_left; first | contradiction | rotate_left)) | (focus ((with_reducible apply wp_extA); rfl; rfl; rotate_left; first | contradiction | rotate_left)) | refine wp_ok ?_))
local macro_rules
  | `(tactic| simp_arith) => `(tactic| repeat infer_instance)
local macro_rules
  | `(tactic| simp_all_arith) => `(tactic| repeat (first | (fail_if_success (with_reducible refine ws_if ?_)); infer_instance))
local macro_rules
  | `(tactic| simp_arith [$a0:term]) => `(tactic| repeat (first | (with_reducible (first | refine wp_C ?_ | refine wp_m2 ?_ | refine wp_m1 ?_ | refine wp_B ?_ | refine isB_ok ?_ | refine if_tt ?_ | refine if_ff ?_ | refine isV_v ?_ | refine isO_o ?_ | refine ws_seq ?_ | refine ws_nil ?_ | refine wp_nil ?_ | refine wp_cons ?_ | refine wp_call ?_ | refine wp_callF ?_ | refine ws_if ?_ | refine ws_ret ?_ | refine ws_set ?_ | refine toSl_d ?_ | refine wp_tup ?_ | refine wp_lst ?_ | refine wp_frz ?_ | refine isFr_l ?_ | refine isFr_k ?_ | refine wp_and ?_ | refine wp_or ?_ | refine wp_not ?_ | refine wp_andV ?_ | refine wp_orV ?_ | refine wp_notV ?_ | refine wp_if ?_ | refine wp_eqI ?_ | refine wp_neI ?_ | refine wp_neB ?_ | refine wp_eqB ?_ | refine wp_addI ?_ | refine wp_subI ?_ | refine wp_ltI ?_ | refine wp_leI ?_ | refine wp_gtI ?_ | refine wp_geI ?_ | refine wp_int ?_ | refine wp_opI ?_ | refine wp_neg ?_ | refine wp_chain ?_ | refine ws_expr ?_ | refine ws_retF ?_ | refine ws_own ?_ | refine ws_loc ?_ | refine ws_frz ?_ | refine ws_unp ?_ | refine ws_FF ?_ | refine ws_FV ?_ | refine ws_VF ?_ | refine ws_par ?_ | refine ws_store ?_ | refine ws_augS ?_ | refine ws_storeK ?_ | refine ws_forK ?_ | refine wp_oN ?_ | refine wp_oS ?_ | refine isI_ok ?_ | refine wp_sl ?_ | refine wp_mt ?_ | refine wp_mt0 ?_ | refine wp_src ?_ | refine wp_items ?_ | refine wp_itemsA ?_ | refine wp_enum ?_ | refine wp_zip ?_ | refine wp_yes ?_ | refine wp_kget ?_ | refine wp_enumL ?_ | refine wp_itemL ?_ | refine wp_itemT ?_)) | ((with_reducible apply wp_is0 $a0); rfl) | infer_instance))
local macro_rules
  | `(tactic| simp_arith [$a0:term, $a1:term]) => `(tactic| repeat (first | (with_reducible (first | refine wp_C ?_ | refine wp_m2 ?_ | refine wp_m1 ?_ | refine wp_B ?_ | refine isB_ok ?_ | refine if_tt ?_ | refine if_ff ?_ | refine isV_v ?_ | refine isO_o ?_ | refine ws_seq ?_ | refine ws_nil ?_ | refine wp_nil ?_ | refine wp_cons ?_ | refine wp_call ?_ | refine wp_callF ?_ | refine ws_if ?_ | refine ws_ret ?_ | refine ws_set ?_ | refine toSl_d ?_ | refine wp_tup ?_ | refine wp_lst ?_ | refine wp_frz ?_ | refine isFr_l ?_ | refine isFr_k ?_ | refine wp_and ?_ | refine wp_or ?_ | refine wp_not ?_ | refine wp_andV ?_ | refine wp_orV ?_ | refine wp_notV ?_ | refine wp_if ?_ | refine wp_eqI ?_ | refine wp_neI ?_ | refine wp_neB ?_ | refine wp_eqB ?_ | refine wp_addI ?_ | refine wp_subI ?_ | refine wp_ltI ?_ | refine wp_leI ?_ | refine wp_gtI ?_ | refine wp_geI ?_ | refine wp_int ?_ | refine wp_opI ?_ | refine wp_neg ?_ | refine wp_chain ?_ | refine ws_expr ?_ | refine ws_retF ?_ | refine ws_own ?_ | refine ws_loc ?_ | refine ws_frz ?_ | refine ws_unp ?_ | refine ws_FF ?_ | refine ws_FV ?_ | refine ws_VF ?_ | refine ws_par ?_ | refine ws_store ?_ | refine ws_augS ?_ | refine ws_storeK ?_ | refine ws_forK ?_ | refine wp_oN ?_ | refine wp_oS ?_ | refine isI_ok ?_ | refine wp_sl ?_ | refine wp_mt ?_ | refine wp_mt0 ?_ | refine wp_src ?_ | refine wp_items ?_ | refine wp_itemsA ?_ | refine wp_enum ?_ | refine wp_zip ?_ | refine wp_yes ?_ | refine wp_kget ?_ | refine wp_enumL ?_ | refine wp_itemL ?_ | refine wp_itemT ?_)) | ((with_reducible apply wp_is0 $a0); rfl) | ((with_reducible apply wp_is0 $a1); rfl) | infer_instance))
local macro_rules
  | `(tactic| simp_arith [$a0:term, $a1:term, $a2:term]) => `(tactic| repeat (first | (with_reducible (first | refine wp_C ?_ | refine wp_m2 ?_ | refine wp_m1 ?_ | refine wp_B ?_ | refine isB_ok ?_ | refine if_tt ?_ | refine if_ff ?_ | refine isV_v ?_ | refine isO_o ?_ | refine ws_seq ?_ | refine ws_nil ?_ | refine wp_nil ?_ | refine wp_cons ?_ | refine wp_call ?_ | refine wp_callF ?_ | refine ws_if ?_ | refine ws_ret ?_ | refine ws_set ?_ | refine toSl_d ?_ | refine wp_tup ?_ | refine wp_lst ?_ | refine wp_frz ?_ | refine isFr_l ?_ | refine isFr_k ?_ | refine wp_and ?_ | refine wp_or ?_ | refine wp_not ?_ | refine wp_andV ?_ | refine wp_orV ?_ | refine wp_notV ?_ | refine wp_if ?_ | refine wp_eqI ?_ | refine wp_neI ?_ | refine wp_neB ?_ | refine wp_eqB ?_ | refine wp_addI ?_ | refine wp_subI ?_ | refine wp_ltI ?_ | refine wp_leI ?_ | refine wp_gtI ?_ | refine wp_geI ?_ | refine wp_int ?_ | refine wp_opI ?_ | refine wp_neg ?_ | refine wp_chain ?_ | refine ws_expr ?_ | refine ws_retF ?_ | refine ws_own ?_ | refine ws_loc ?_ | refine ws_frz ?_ | refine ws_unp ?_ | refine ws_FF ?_ | refine ws_FV ?_ | refine ws_VF ?_ | refine ws_par ?_ | refine ws_store ?_ | refine ws_augS ?_ | refine ws_storeK ?_ | refine ws_forK ?_ | refine wp_oN ?_ | refine wp_oS ?_ | refine isI_ok ?_ | refine wp_sl ?_ | refine wp_mt ?_ | refine wp_mt0 ?_ | refine wp_src ?_ | refine wp_items ?_ | refine wp_itemsA ?_ | refine wp_enum ?_ | refine wp_zip ?_ | refine wp_yes ?_ | refine wp_kget ?_ | refine wp_enumL ?_ | refine wp_itemL ?_ | refine wp_itemT ?_)) | ((with_reducible apply wp_is0 $a0); rfl) | ((with_reducible apply wp_is0 $a1); rfl) | ((with_reducible apply wp_is0 $a2); rfl) | infer_instance))
local macro_rules
  | `(tactic| simp_arith [$a0:term, $a1:term, $a2:term, $a3:term]) => `(tactic| repeat (first | (with_reducible (first | refine wp_C ?_ | refine wp_m2 ?_ | refine wp_m1 ?_ | refine wp_B ?_ | refine isB_ok ?_ | refine if_tt ?_ | refine if_ff ?_ | refine isV_v ?_ | refine isO_o ?_ | refine ws_seq ?_ | refine ws_nil ?_ | refine wp_nil ?_ | refine wp_cons ?_ | refine wp_call ?_ | refine wp_callF ?_ | refine ws_if ?_ | refine ws_ret ?_ | refine ws_set ?_ | refine toSl_d ?_ | refine wp_tup ?_ | refine wp_lst ?_ | refine wp_frz ?_ | refine isFr_l ?_ | refine isFr_k ?_ | refine wp_and ?_ | refine wp_or ?_ | refine wp_not ?_ | refine wp_andV ?_ | refine wp_orV ?_ | refine wp_notV ?_ | refine wp_if ?_ | refine wp_eqI ?_ | refine wp_neI ?_ | refine wp_neB ?_ | refine wp_eqB ?_ | refine wp_addI ?_ | refine wp_subI ?_ | refine wp_ltI ?_ | refine wp_leI ?_ | refine wp_gtI ?_ | refine wp_geI ?_ | refine wp_int ?_ | refine wp_opI ?_ | refine wp_neg ?_ | refine wp_chain ?_ | refine ws_expr ?_ | refine ws_retF ?_ | refine ws_own ?_ | refine ws_loc ?_ | refine ws_frz ?_ | refine ws_unp ?_ | refine ws_FF ?_ | refine ws_FV ?_ | refine ws_VF ?_ | refine ws_par ?_ | refine ws_store ?_ | refine ws_augS ?_ | refine ws_storeK ?_ | refine ws_forK ?_ | refine wp_oN ?_ | refine wp_oS ?_ | refine isI_ok ?_ | refine wp_sl ?_ | refine wp_mt ?_ | refine wp_mt0 ?_ | refine wp_src ?_ | refine wp_items ?_ | refine wp_itemsA ?_ | refine wp_enum ?_ | refine wp_zip ?_ | refine wp_yes ?_ | refine wp_kget ?_ | refine wp_enumL ?_ | refine wp_itemL ?_ | refine wp_itemT ?_)) | ((with_reducible apply wp_is0 $a0); rfl) | ((with_reducible apply wp_is0 $a1); rfl) | ((with_reducible apply wp_is0 $a2); rfl) | ((with_reducible apply wp_is0 $a3); rfl) | infer_instance))
local macro_rules
  | `(tactic| simp_arith [$a0:term, $a1:term, $a2:term, $a3:term, $a4:term]) => `(tactic| repeat (first | (with_reducible (first | refine wp_C ?_ | refine wp_m2 ?_ | refine wp_m1 ?_ | refine wp_B ?_ | refine isB_ok ?_ | refine if_tt ?_ | refine if_ff ?_ | refine isV_v ?_ | refine isO_o ?_ | refine ws_seq ?_ | refine ws_nil ?_ | refine wp_nil ?_ | refine wp_cons ?_ | refine wp_call ?_ | refine wp_callF ?_ | refine ws_if ?_ | refine ws_ret ?_ | refine ws_set ?_ | refine toSl_d ?_ | refine wp_tup ?_ | refine wp_lst ?_ | refine wp_frz ?_ | refine isFr_l ?_ | refine isFr_k ?_ | refine wp_and ?_ | refine wp_or ?_ | refine wp_not ?_ | refine wp_andV ?_ | refine wp_orV ?_ | refine wp_notV ?_ | refine wp_if ?_ | refine wp_eqI ?_ | refine wp_neI ?_ | refine wp_neB ?_ | refine wp_eqB ?_ | refine wp_addI ?_ | refine wp_subI ?_ | refine wp_ltI ?_ | refine wp_leI ?_ | refine wp_gtI ?_ | refine wp_geI ?_ | refine wp_int ?_ | refine wp_opI ?_ | refine wp_neg ?_ | refine wp_chain ?_ | refine ws_expr ?_ | refine ws_retF ?_ | refine ws_own ?_ | refine ws_loc ?_ | refine ws_frz ?_ | refine ws_unp ?_ | refine ws_FF ?_ | refine ws_FV ?_ | refine ws_VF ?_ | refine ws_par ?_ | refine ws_store ?_ | refine ws_augS ?_ | refine ws_storeK ?_ | refine ws_forK ?_ | refine wp_oN ?_ | refine wp_oS ?_ | refine isI_ok ?_ | refine wp_sl ?_ | refine wp_mt ?_ | refine wp_mt0 ?_ | refine wp_src ?_ | refine wp_items ?_ | refine wp_itemsA ?_ | refine wp_enum ?_ | refine wp_zip ?_ | refine wp_yes ?_ | refine wp_kget ?_ | refine wp_enumL ?_ | refine wp_itemL ?_ | refine wp_itemT ?_)) | ((with_reducible apply wp_is0 $a0); rfl) | ((with_reducible apply wp_is0 $a1); rfl) | ((with_reducible apply wp_is0 $a2); rfl) | ((with_reducible apply wp_is0 $a3); rfl) | ((with_reducible apply wp_is0 $a4); rfl) | infer_instance))
local macro_rules
  | `(tactic| simp_arith [$a0:term, $a1:term, $a2:term, $a3:term, $a4:term, $a5:term]) => `(tactic| repeat (first | (with_reducible (first | refine wp_C ?_ | refine wp_m2 ?_ | refine wp_m1 ?_ | refine wp_B ?_ | refine isB_ok ?_ | refine if_tt ?_ | refine if_ff ?_ | refine isV_v ?_ | refine isO_o ?_ | refine ws_seq ?_ | refine ws_nil ?_ | refine wp_nil ?_ | refine wp_cons ?_ | refine wp_call ?_ | refine wp_callF ?_ | refine ws_if ?_ | refine ws_ret ?_ | refine ws_set ?_ | refine toSl_d ?_ | refine wp_tup ?_ | refine wp_lst ?_ | refine wp_frz ?_ | refine isFr_l ?_ | refine isFr_k ?_ | refine wp_and ?_ | refine wp_or ?_ | refine wp_not ?_ | refine wp_andV ?_ | refine wp_orV ?_ | refine wp_notV ?_ | refine wp_if ?_ | refine wp_eqI ?_ | refine wp_neI ?_ | refine wp_neB ?_ | refine wp_eqB ?_ | refine wp_addI ?_ | refine wp_subI ?_ | refine wp_ltI ?_ | refine wp_leI ?_ | refine wp_gtI ?_ | refine wp_geI ?_ | refine wp_int ?_ | refine wp_opI ?_ | refine wp_neg ?_ | refine wp_chain ?_ | refine ws_expr ?_ | refine ws_retF ?_ | refine ws_own ?_ | refine ws_loc ?_ | refine ws_frz ?_ | refine ws_unp ?_ | refine ws_FF ?_ | refine ws_FV ?_ | refine ws_VF ?_ | refine ws_par ?_ | refine ws_store ?_ | refine ws_augS ?_ | refine ws_storeK ?_ | refine ws_forK ?_ | refine wp_oN ?_ | refine wp_oS ?_ | refine isI_ok ?_ | refine wp_sl ?_ | refine wp_mt ?_ | refine wp_mt0 ?_ | refine wp_src ?_ | refine wp_items ?_ | refine wp_itemsA ?_ | refine wp_enum ?_ | refine wp_zip ?_ | refine wp_yes ?_ | refine wp_kget ?_ | refine wp_enumL ?_ | refine wp_itemL ?_ | refine wp_itemT ?_)) | ((with_reducible apply wp_is0 $a0); rfl) | ((with_reducible apply wp_is0 $a1); rfl) | ((with_reducible apply wp_is0 $a2); rfl) | ((with_reducible apply wp_is0 $a3); rfl) | ((with_reducible apply wp_is0 $a4); rfl) | ((with_reducible apply wp_is0 $a5); rfl) | infer_instance))
local macro_rules
  | `(tactic| simp_arith [$a0:term, $a1:term, $a2:term, $a3:term, $a4:term, $a5:term, $a6:term]) => `(tactic| repeat (first | (with_reducible (first | refine wp_C ?_ | refine wp_m2 ?_ | refine wp_m1 ?_ | refine wp_B ?_ | refine isB_ok ?_ | refine if_tt ?_ | refine if_ff ?_ | refine isV_v ?_ | refine isO_o ?_ | refine ws_seq ?_ | refine ws_nil ?_ | refine wp_nil ?_ | refine wp_cons ?_ | refine wp_call ?_ | refine wp_callF ?_ | refine ws_if ?_ | refine ws_ret ?_ | refine ws_set ?_ | refine toSl_d ?_ | refine wp_tup ?_ | refine wp_lst ?_ | refine wp_frz ?_ | refine isFr_l ?_ | refine isFr_k ?_ | refine wp_and ?_ | refine wp_or ?_ | refine wp_not ?_ | refine wp_andV ?_ | refine wp_orV ?_ | refine wp_notV ?_ | refine wp_if ?_ | refine wp_eqI ?_ | refine wp_neI ?_ | refine wp_neB ?_ | refine wp_eqB ?_ | refine wp_addI ?_ | refine wp_subI ?_ | refine wp_ltI ?_ | refine wp_leI ?_ | refine wp_gtI ?_ | refine wp_geI ?_ | refine wp_int ?_ | refine wp_opI ?_ | refine wp_neg ?_ | refine wp_chain ?_ | refine ws_expr ?_ | refine ws_retF ?_ | refine ws_own ?_ | refine ws_loc ?_ | refine ws_frz ?_ | refine ws_unp ?_ | refine ws_FF ?_ | refine ws_FV ?_ | refine ws_VF ?_ | refine ws_par ?_ | refine ws_store ?_ | refine ws_augS ?_ | refine ws_storeK ?_ | refine ws_forK ?_ | refine wp_oN ?_ | refine wp_oS ?_ | refine isI_ok ?_ | refine wp_sl ?_ | refine wp_mt ?_ | refine wp_mt0 ?_ | refine wp_src ?_ | refine wp_items ?_ | refine wp_itemsA ?_ | refine wp_enum ?_ | refine wp_zip ?_ | refine wp_yes ?_ | refine wp_kget ?_ | refine wp_enumL ?_ | refine wp_itemL ?_ | refine wp_itemT ?_)) | ((with_reducible apply wp_is0 $a0); rfl) | ((with_reducible apply wp_is0 $a1); rfl) | ((with_reducible apply wp_is0 $a2); rfl) | ((with_reducible apply wp_is0 $a3); rfl) | ((with_reducible apply wp_is0 $a4); rfl) | ((with_reducible apply wp_is0 $a5); rfl) | ((with_reducible apply wp_is0 $a6); rfl) | infer_instance))
local macro_rules
  | `(tactic| simp_arith [$a0:term, $a1:term, $a2:term, $a3:term, $a4:term, $a5:term, $a6:term, $a7:term]) => `(tactic| repeat (first | (with_reducible (first | refine wp_C ?_ | refine wp_m2 ?_ | refine wp_m1 ?_ | refine wp_B ?_ | refine isB_ok ?_ | refine if_tt ?_ | refine if_ff ?_ | refine isV_v ?_ | refine isO_o ?_ | refine ws_seq ?_ | refine ws_nil ?_ | refine wp_nil ?_ | refine wp_cons ?_ | refine wp_call ?_ | refine wp_callF ?_ | refine ws_if ?_ | refine ws_ret ?_ | refine ws_set ?_ | refine toSl_d ?_ | refine wp_tup ?_ | refine wp_lst ?_ | refine wp_frz ?_ | refine isFr_l ?_ | refine isFr_k ?_ | refine wp_and ?_ | refine wp_or ?_ | refine wp_not ?_ | refine wp_andV ?_ | refine wp_orV ?_ | refine wp_notV ?_ | refine wp_if ?_ | refine wp_eqI ?_ | refine wp_neI ?_ | refine wp_neB ?_ | refine wp_eqB ?_ | refine wp_addI ?_ | refine wp_subI ?_ | refine wp_ltI ?_ | refine wp_leI ?_ | refine wp_gtI ?_ | refine wp_geI ?_ | refine wp_int ?_ | refine wp_opI ?_ | refine wp_neg ?_ | refine wp_chain ?_ | refine ws_expr ?_ | refine ws_retF ?_ | refine ws_own ?_ | refine ws_loc ?_ | refine ws_frz ?_ | refine ws_unp ?_ | refine ws_FF ?_ | refine ws_FV ?_ | refine ws_VF ?_ | refine ws_par ?_ | refine ws_store ?_ | refine ws_augS ?_ | refine ws_storeK ?_ | refine ws_forK ?_ | refine wp_oN ?_ | refine wp_oS ?_ | refine isI_ok ?_ | refine wp_sl ?_ | refine wp_mt ?_ | refine wp_mt0 ?_ | refine wp_src ?_ | refine wp_items ?_ | refine wp_itemsA ?_ | refine wp_enum ?_ | refine wp_zip ?_ | refine wp_yes ?_ | refine wp_kget ?_ | refine wp_enumL ?_ | refine wp_itemL ?_ | refine wp_itemT ?_)) | ((with_reducible apply wp_is0 $a0); rfl) | ((with_reducible apply wp_is0 $a1); rfl) | ((with_reducible apply wp_is0 $a2); rfl) | ((with_reducible apply wp_is0 $a3); rfl) | ((with_reducible apply wp_is0 $a4); rfl) | ((with_reducible apply wp_is0 $a5); rfl) | ((with_reducible apply wp_is0 $a6); rfl) | ((with_reducible apply wp_is0 $a7); rfl) | infer_instance))
local macro_rules
  | `(tactic| array_get_dec) => `(tactic| (first | (with_reducible (first | apply pv_C | apply pv_kt | apply pl_nil | apply tb_yes | apply pi_N | apply po_dnew | apply pv_m2 | apply pv_m1 | apply pl_cons | apply pv_call | apply po_callF | apply pv_frzL | apply tb_B | apply tb_not | apply pv_notV | apply pi_S | apply pv_sl | apply pj_itemsA | apply pj_items | apply pj_enum | apply pj_src | apply pj_zip | apply pv_tup | apply po_lst | apply a_eqI | apply a_neI | apply a_eqB | apply a_neB | apply a_addI | apply a_subI | apply a_leI | apply a_ltI | apply a_gtI | apply a_geI | apply a_ltS | apply a_lenL | apply a_lenT | apply a_tuple | apply a_tupT | apply a_listL | apply a_listT | apply a_intB | apply a_intI | apply a_slL | apply a_slT | apply a_isN | apply a_notN | apply aj_lst | apply aj_tup | apply aj_kt | apply aj_frz | apply aj_enumL | apply a_all | apply a_any | apply tb_and | apply tb_or | apply pv_andV | apply pv_orV | apply pv_chain | apply pv_ifD)) | ((with_reducible apply pv_d); rfl) | ((with_reducible apply pv_o); rfl) | ((with_reducible apply pv_f); rfl) | ((with_reducible apply pv_l); rfl) | ((with_reducible apply a_isi); first | rfl | assumption) | (focus ((with_reducible apply a_eqS); contradiction; contradiction)) | (focus ((with_reducible apply a_neS); contradiction; contradiction)) | (focus ((with_reducible apply a_addL); contradiction)) | (focus ((with_reducible apply a_addT); contradiction)) | (focus ((with_reducible apply a_lenS); contradiction)) | (focus ((with_reducible apply aj_str); contradiction)) | (focus ((with_reducible apply aj_range1); contradiction)) | (focus ((with_reducible apply aj_zipT); contradiction)) | (focus ((with_reducible apply aj_zipL); contradiction))))
local macro_rules
  | `(tactic| simp_arith!) => `(tactic| repeat (first | array_get_dec | exact tb_absF rfl | exact tb_absT rfl | exact pv_absF rfl | exact pv_absT rfl | exact a2_absT rfl | intro _ | exact (false : Bool) | ((with_reducible apply a_ix); rfl) | ((with_reducible apply a_ixL); rfl) | (exact Nat.le_of_ble_eq_true rfl) | exact rfl))
local macro_rules
  | `(tactic| simp_arith! [$a0:term]) => `(tactic| repeat (first | array_get_dec | ((with_reducible apply a_is0 $a0); rfl) | ((with_reducible apply a2_id); exact $a0) | ((with_reducible apply ao_id); exact $a0) | (with_reducible exact $a0) | exact tb_absF rfl | exact tb_absT rfl | exact pv_absF rfl | exact pv_absT rfl | exact a2_absT rfl | intro _ | exact (false : Bool) | ((with_reducible apply a_ix); rfl) | ((with_reducible apply a_ixL); rfl) | (exact Nat.le_of_ble_eq_true rfl) | exact rfl))
local macro_rules
  | `(tactic| simp_arith! [$a0:term, $a1:term]) => `(tactic| repeat (first | array_get_dec | ((with_reducible apply a_is0 $a0); rfl) | ((with_reducible apply a2_id); exact $a0) | ((with_reducible apply ao_id); exact $a0) | (with_reducible exact $a0) | ((with_reducible apply a_is0 $a1); rfl) | ((with_reducible apply a2_id); exact $a1) | ((with_reducible apply ao_id); exact $a1) | (with_reducible exact $a1) | exact tb_absF rfl | exact tb_absT rfl | exact pv_absF rfl | exact pv_absT rfl | exact a2_absT rfl | intro _ | exact (false : Bool) | ((with_reducible apply a_ix); rfl) | ((with_reducible apply a_ixL); rfl) | (exact Nat.le_of_ble_eq_true rfl) | exact rfl))
local macro_rules
  | `(tactic| simp_arith! [$a0:term, $a1:term, $a2:term]) => `(tactic| repeat (first | array_get_dec | ((with_reducible apply a_is0 $a0); rfl) | ((with_reducible apply a2_id); exact $a0) | ((with_reducible apply ao_id); exact $a0) | (with_reducible exact $a0) | ((with_reducible apply a_is0 $a1); rfl) | ((with_reducible apply a2_id); exact $a1) | ((with_reducible apply ao_id); exact $a1) | (with_reducible exact $a1) | ((with_reducible apply a_is0 $a2); rfl) | ((with_reducible apply a2_id); exact $a2) | ((with_reducible apply ao_id); exact $a2) | (with_reducible exact $a2) | exact tb_absF rfl | exact tb_absT rfl | exact pv_absF rfl | exact pv_absT rfl | exact a2_absT rfl | intro _ | exact (false : Bool) | ((with_reducible apply a_ix); rfl) | ((with_reducible apply a_ixL); rfl) | (exact Nat.le_of_ble_eq_true rfl) | exact rfl))
local macro_rules
  | `(tactic| simp_arith! [$a0:term, $a1:term, $a2:term, $a3:term]) => `(tactic| repeat (first | array_get_dec | ((with_reducible apply a_is0 $a0); rfl) | ((with_reducible apply a2_id); exact $a0) | ((with_reducible apply ao_id); exact $a0) | (with_reducible exact $a0) | ((with_reducible apply a_is0 $a1); rfl) | ((with_reducible apply a2_id); exact $a1) | ((with_reducible apply ao_id); exact $a1) | (with_reducible exact $a1) | ((with_reducible apply a_is0 $a2); rfl) | ((with_reducible apply a2_id); exact $a2) | ((with_reducible apply ao_id); exact $a2) | (with_reducible exact $a2) | ((with_reducible apply a_is0 $a3); rfl) | ((with_reducible apply a2_id); exact $a3) | ((with_reducible apply ao_id); exact $a3) | (with_reducible exact $a3) | exact tb_absF rfl | exact tb_absT rfl | exact pv_absF rfl | exact pv_absT rfl | exact a2_absT rfl | intro _ | exact (false : Bool) | ((with_reducible apply a_ix); rfl) | ((with_reducible apply a_ixL); rfl) | (exact Nat.le_of_ble_eq_true rfl) | exact rfl))
local macro_rules
  | `(tactic| simp_arith! [$a0:term, $a1:term, $a2:term, $a3:term, $a4:term]) => `(tactic| repeat (first | array_get_dec | ((with_reducible apply a_is0 $a0); rfl) | ((with_reducible apply a2_id); exact $a0) | ((with_reducible apply ao_id); exact $a0) | (with_reducible exact $a0) | ((with_reducible apply a_is0 $a1); rfl) | ((with_reducible apply a2_id); exact $a1) | ((with_reducible apply ao_id); exact $a1) | (with_reducible exact $a1) | ((with_reducible apply a_is0 $a2); rfl) | ((with_reducible apply a2_id); exact $a2) | ((with_reducible apply ao_id); exact $a2) | (with_reducible exact $a2) | ((with_reducible apply a_is0 $a3); rfl) | ((with_reducible apply a2_id); exact $a3) | ((with_reducible apply ao_id); exact $a3) | (with_reducible exact $a3) | ((with_reducible apply a_is0 $a4); rfl) | ((with_reducible apply a2_id); exact $a4) | ((with_reducible apply ao_id); exact $a4) | (with_reducible exact $a4) | exact tb_absF rfl | exact tb_absT rfl | exact pv_absF rfl | exact pv_absT rfl | exact a2_absT rfl | intro _ | exact (false : Bool) | ((with_reducible apply a_ix); rfl) | ((with_reducible apply a_ixL); rfl) | (exact Nat.le_of_ble_eq_true rfl) | exact rfl))
local macro_rules
  | `(tactic| simp_arith! [$a0:term, $a1:term, $a2:term, $a3:term, $a4:term, $a5:term]) => `(tactic| repeat (first | array_get_dec | ((with_reducible apply a_is0 $a0); rfl) | ((with_reducible apply a2_id); exact $a0) | ((with_reducible apply ao_id); exact $a0) | (with_reducible exact $a0) | ((with_reducible apply a_is0 $a1); rfl) | ((with_reducible apply a2_id); exact $a1) | ((with_reducible apply ao_id); exact $a1) | (with_reducible exact $a1) | ((with_reducible apply a_is0 $a2); rfl) | ((with_reducible apply a2_id); exact $a2) | ((with_reducible apply ao_id); exact $a2) | (with_reducible exact $a2) | ((with_reducible apply a_is0 $a3); rfl) | ((with_reducible apply a2_id); exact $a3) | ((with_reducible apply ao_id); exact $a3) | (with_reducible exact $a3) | ((with_reducible apply a_is0 $a4); rfl) | ((with_reducible apply a2_id); exact $a4) | ((with_reducible apply ao_id); exact $a4) | (with_reducible exact $a4) | ((with_reducible apply a_is0 $a5); rfl) | ((with_reducible apply a2_id); exact $a5) | ((with_reducible apply ao_id); exact $a5) | (with_reducible exact $a5) | exact tb_absF rfl | exact tb_absT rfl | exact pv_absF rfl | exact pv_absT rfl | exact a2_absT rfl | intro _ | exact (false : Bool) | ((with_reducible apply a_ix); rfl) | ((with_reducible apply a_ixL); rfl) | (exact Nat.le_of_ble_eq_true rfl) | exact rfl))
local macro_rules
  | `(tactic| simp_arith! [$a0:term, $a1:term, $a2:term, $a3:term, $a4:term, $a5:term, $a6:term]) => `(tactic| repeat (first | array_get_dec | ((with_reducible apply a_is0 $a0); rfl) | ((with_reducible apply a2_id); exact $a0) | ((with_reducible apply ao_id); exact $a0) | (with_reducible exact $a0) | ((with_reducible apply a_is0 $a1); rfl) | ((with_reducible apply a2_id); exact $a1) | ((with_reducible apply ao_id); exact $a1) | (with_reducible exact $a1) | ((with_reducible apply a_is0 $a2); rfl) | ((with_reducible apply a2_id); exact $a2) | ((with_reducible apply ao_id); exact $a2) | (with_reducible exact $a2) | ((with_reducible apply a_is0 $a3); rfl) | ((with_reducible apply a2_id); exact $a3) | ((with_reducible apply ao_id); exact $a3) | (with_reducible exact $a3) | ((with_reducible apply a_is0 $a4); rfl) | ((with_reducible apply a2_id); exact $a4) | ((with_reducible apply ao_id); exact $a4) | (with_reducible exact $a4) | ((with_reducible apply a_is0 $a5); rfl) | ((with_reducible apply a2_id); exact $a5) | ((with_reducible apply ao_id); exact $a5) | (with_reducible exact $a5) | ((with_reducible apply a_is0 $a6); rfl) | ((with_reducible apply a2_id); exact $a6) | ((with_reducible apply ao_id); exact $a6) | (with_reducible exact $a6) | exact tb_absF rfl | exact tb_absT rfl | exact pv_absF rfl | exact pv_absT rfl | exact a2_absT rfl | intro _ | exact (false : Bool) | ((with_reducible apply a_ix); rfl) | ((with_reducible apply a_ixL); rfl) | (exact Nat.le_of_ble_eq_true rfl) | exact rfl))
local macro_rules
  | `(tactic| simp_arith! [$a0:term, $a1:term, $a2:term, $a3:term, $a4:term, $a5:term, $a6:term, $a7:term]) => `(tactic| repeat (first | array_get_dec | ((with_reducible apply a_is0 $a0); rfl) | ((with_reducible apply a2_id); exact $a0) | ((with_reducible apply ao_id); exact $a0) | (with_reducible exact $a0) | ((with_reducible apply a_is0 $a1); rfl) | ((with_reducible apply a2_id); exact $a1) | ((with_reducible apply ao_id); exact $a1) | (with_reducible exact $a1) | ((with_reducible apply a_is0 $a2); rfl) | ((with_reducible apply a2_id); exact $a2) | ((with_reducible apply ao_id); exact $a2) | (with_reducible exact $a2) | ((with_reducible apply a_is0 $a3); rfl) | ((with_reducible apply a2_id); exact $a3) | ((with_reducible apply ao_id); exact $a3) | (with_reducible exact $a3) | ((with_reducible apply a_is0 $a4); rfl) | ((with_reducible apply a2_id); exact $a4) | ((with_reducible apply ao_id); exact $a4) | (with_reducible exact $a4) | ((with_reducible apply a_is0 $a5); rfl) | ((with_reducible apply a2_id); exact $a5) | ((with_reducible apply ao_id); exact $a5) | (with_reducible exact $a5) | ((with_reducible apply a_is0 $a6); rfl) | ((with_reducible apply a2_id); exact $a6) | ((with_reducible apply ao_id); exact $a6) | (with_reducible exact $a6) | ((with_reducible apply a_is0 $a7); rfl) | ((with_reducible apply a2_id); exact $a7) | ((with_reducible apply ao_id); exact $a7) | (with_reducible exact $a7) | exact tb_absF rfl | exact tb_absT rfl | exact pv_absF rfl | exact pv_absT rfl | exact a2_absT rfl | intro _ | exact (false : Bool) | ((with_reducible apply a_ix); rfl) | ((with_reducible apply a_ixL); rfl) | (exact Nat.le_of_ble_eq_true rfl) | exact rfl))
theorem shg : SeqAt.shaped (.str (Str.ofString "gift")) = true := by decide +kernel
theorem shw (w : Bool) : SeqAt.shaped (.str (wd w)) = true := by cases w <;> decide +kernel
theorem depth_of_is : ∀ (n : Nat) (f : Fm), fd f < n → sz f ≤ 1000 → Is (F_depth_of n) [.d (enc f)] (.int (dpI f))
  | 0, f, h, _ => by omega
  | n + 1, .gift x, h, _ => by
    show Is (M_depth_of (F_depth_of _)) _ _
    unfold M_depth_of
    refine is_fun fun sto => ?_
    rw [enc]
    apply ws_retP
    · simp_arith!
    exact ⟨rfl, rfl⟩
  | n + 1, .node w ps, h, hz => by
    show Is (M_depth_of (F_depth_of _)) _ _
    unfold M_depth_of
    refine is_fun fun sto => ?_
    rw [enc, encs_map]
    have hl := len_szs ps
    rw [sz] at hz
    have ih : ∀ a ∈ ps, Is (F_depth_of n) [.d (enc a)] (.int (dpI a)) := fun a ha => depth_of_is n a (Nat.lt_of_le_of_lt (fd_mem ha) (Nat.lt_of_succ_lt_succ h)) (Nat.le_trans (szs_mem ha) (by omega))
    apply ws_retP
    · simp_arith! [a_eqS (shw w) shg]
      apply pl_star
      · simp_arith!
        apply po_map (ps) (enc)
        · simp_arith! [ih a ha]
        · first | rfl | exact (List.map_id _).symm | simp
        · intro a ha; refine ⟨_, rfl, ?_, rfl⟩; simp_arith! [ih a ha]
        try any_goals (show S.wipe _ _ = _; rfl)
      · rfl
      · simp_arith!
      · exact datas_s1
      · contradiction
      simp_arith!
      · exact a_max (bs := 0 :: ps.map dpI) (by simp) (by simp)
      simp_arith!
    · rw [wd_ne, dpI, dpIs_map]
      exact ⟨rfl, rfl⟩
theorem l_depth_is : ∀ (n : Nat) (f : Fm), fd f < n → sz f ≤ 1000 → Is (F_l_depth n) [.d (enc f)] (.int (dpI f))
  | 0, f, h, _ => by omega
  | n + 1, .gift x, h, _ => by
    show Is (M_l_depth (F_l_depth _)) _ _
    unfold M_l_depth
    refine is_fun fun sto => ?_
    rw [enc]
    apply ws_retP
    · simp_arith!
    exact ⟨rfl, rfl⟩
  | n + 1, .node w ps, h, hz => by
    show Is (M_l_depth (F_l_depth _)) _ _
    unfold M_l_depth
    refine is_fun fun sto => ?_
    rw [enc, encs_map]
    have hl := len_szs ps
    rw [sz] at hz
    have ih : ∀ a ∈ ps, Is (F_l_depth n) [.d (enc a)] (.int (dpI a)) := fun a ha => l_depth_is n a (Nat.lt_of_le_of_lt (fd_mem ha) (Nat.lt_of_succ_lt_succ h)) (Nat.le_trans (szs_mem ha) (by omega))
    apply ws_retP
    · simp_arith! [a_eqS (shw w) shg]
      apply po_map (ps) (enc)
      · simp_arith! [ih a ha]
      · first | rfl | exact (List.map_id _).symm | simp
      · intro a ha; refine ⟨_, rfl, ?_, rfl⟩; simp_arith! [ih a ha]
      try any_goals (show S.wipe _ _ = _; rfl)
      simp_arith!
      · exact a_max (bs := 0 :: ps.map dpI) (by simp) (by simp)
      simp_arith!
    · rw [wd_ne, dpI, dpIs_map]
      exact ⟨rfl, rfl⟩
theorem size_of_is : ∀ (n : Nat) (f : Fm), fd f < n → Is (F_size_of n) [.d (enc f)] (.int (szI f))
  | 0, f, h => by omega
  | n + 1, .gift x, h => by
    show Is (M_size_of (F_size_of _)) _ _
    unfold M_size_of
    refine is_fun fun sto => ?_
    rw [enc]
    apply ws_retP
    · simp_arith!
    exact ⟨rfl, rfl⟩
  | n + 1, .node w ps, h => by
    show Is (M_size_of (F_size_of _)) _ _
    unfold M_size_of
    refine is_fun fun sto => ?_
    rw [enc, encs_map]
    have ih : ∀ a ∈ ps, Is (F_size_of n) [.d (enc a)] (.int (szI a)) := fun a ha => size_of_is n a (Nat.lt_of_le_of_lt (fd_mem ha) (Nat.lt_of_succ_lt_succ h))
    apply ws_retP
    · simp_arith! [a_eqS (shw w) shg]
      apply po_map (ps) (enc)
      · simp_arith! [ih a ha]
      · first | rfl | exact (List.map_id _).symm | simp
      · intro a ha; refine ⟨_, rfl, ?_, rfl⟩; simp_arith! [ih a ha]
      try any_goals (show S.wipe _ _ = _; rfl)
      simp_arith!
      · exact a_sum (bs := ps.map szI) (by simp)
      simp_arith!
    · rw [wd_ne, szI, szIs_map]
      exact ⟨rfl, rfl⟩
theorem l_size_is : ∀ (n : Nat) (f : Fm), fd f < n → Is (F_l_size n) [.d (enc f)] (.int (szI f))
  | 0, f, h => by omega
  | n + 1, .gift x, h => by
    show Is (M_l_size (F_l_size _)) _ _
    unfold M_l_size
    refine is_fun fun sto => ?_
    rw [enc]
    apply ws_retP
    · simp_arith!
    exact ⟨rfl, rfl⟩
  | n + 1, .node w ps, h => by
    show Is (M_l_size (F_l_size _)) _ _
    unfold M_l_size
    refine is_fun fun sto => ?_
    rw [enc, encs_map]
    have ih : ∀ a ∈ ps, Is (F_l_size n) [.d (enc a)] (.int (szI a)) := fun a ha => l_size_is n a (Nat.lt_of_le_of_lt (fd_mem ha) (Nat.lt_of_succ_lt_succ h))
    apply ws_retP
    · simp_arith! [a_eqS (shw w) shg]
      apply po_map (ps) (enc)
      · simp_arith! [ih a ha]
      · first | rfl | exact (List.map_id _).symm | simp
      · intro a ha; refine ⟨_, rfl, ?_, rfl⟩; simp_arith! [ih a ha]
      try any_goals (show S.wipe _ _ = _; rfl)
      simp_arith!
      · exact a_sum (bs := ps.map szI) (by simp)
      simp_arith!
    · rw [wd_ne, szI, szIs_map]
      exact ⟨rfl, rfl⟩
end Lk01
set_option Elab.async false
set_option linter.all false
set_option maxRecDepth 100000
set_option maxHeartbeats 400000
namespace Lk01
open PySem PySem.Spec PyProof.Rows L2 RA
local macro_rules
  | `(tactic| contradiction) => `(tactic| (first | decide +kernel | omega | assumption | exact sh_shaped (by assumption) | exact ⟨by omega, by omega⟩ | exact Or.inl (by decide) | exact Or.inr (by decide) | exact szl (by omega) | exact szl (by simp only [List.length_map, List.length_append, List.length_cons, List.length_nil]; omega)))
local macro_rules
  | `(tactic| infer_instance) => `(tactic| (first | (with_reducible (first | refine wp_C ?_ | refine wp_m2 ?_ | refine wp_m1 ?_ | refine wp_B ?_ | refine isB_ok ?_ | refine if_tt ?_ | refine if_ff ?_ | refine isV_v ?_ | refine isO_o ?_ | refine ws_seq ?_ | refine ws_nil ?_ | refine wp_nil ?_ | refine wp_cons ?_ | refine wp_call ?_ | refine wp_callF ?_ | refine ws_if ?_ | refine ws_ret ?_ | refine ws_set ?_ | refine toSl_d ?_ | refine wp_tup ?_ | refine wp_lst ?_ | refine wp_frz ?_ | refine isFr_l ?_ | refine isFr_k ?_ | refine wp_and ?_ | refine wp_or ?_ | refine wp_not ?_ | refine wp_andV ?_ | refine wp_orV ?_ | refine wp_notV ?_ | refine wp_if ?_ | refine wp_eqI ?_ | refine wp_neI ?_ | refine wp_neB ?_ | refine wp_eqB ?_ | refine wp_addI ?_ | refine wp_subI ?_ | refine wp_ltI ?_ | refine wp_leI ?_ | refine wp_gtI ?_ | refine wp_geI ?_ | refine wp_int ?_ | refine wp_opI ?_ | refine wp_neg ?_ | refine wp_chain ?_ | refine ws_expr ?_ | refine ws_retF ?_ | refine ws_own ?_ | refine ws_loc ?_ | refine ws_frz ?_ | refine ws_unp ?_ | refine ws_FF ?_ | refine ws_FV ?_ | refine ws_VF ?_ | refine ws_par ?_ | refine ws_store ?_ | refine ws_augS ?_ | refine ws_storeK ?_ | refine ws_forK ?_ | refine wp_oN ?_ | refine wp_oS ?_ | refine isI_ok ?_ | refine wp_sl ?_ | refine wp_mt ?_ | refine wp_mt0 ?_ | refine wp_src ?_ | refine wp_items ?_ | refine wp_itemsA ?_ | refine wp_enum ?_ | refine wp_zip ?_ | refine wp_yes ?_ | refine wp_kget ?_ | refine wp_enumL ?_ | refine wp_itemL ?_ | refine wp_itemT ?_)) | ((with_reducible apply wp_V); rfl) | ((with_reducible apply ws_aug); rfl) | ((with_reducible apply wp_isi); rfl) | ((with_reducible apply wp_O); rfl) | ((with_reducible apply wp_d); rfl) | ((with_reducible apply wp_l); rfl) | ((with_reducible apply wp_o); rfl) | ((with_reducible apply wp_f); rfl)  | (focus ((with_reducible refine wp_eqS ?_ ?_ ?_); rotate_left; contradiction; contradiction)) | (focus ((with_reducible refine wp_neS ?_ ?_ ?_); rotate_left; contradiction; contradiction)) | (focus ((with_reducible refine wp_mod ?_ ?_); rotate_left; contradiction)) | (focus ((with_reducible refine wp_fdiv ?_ ?_ ?_); rotate_left; contradiction; contradiction)) | (focus ((with_reducible refine wp_mul ?_ ?_); rotate_left; contradiction)) | (focus ((with_reducible refine wp_powI ?_ ?_); rotate_left; contradiction)) | (focus ((with_reducible refine wp_addL ?_ ?_); rotate_left; contradiction)) | (focus ((with_reducible refine wp_addT ?_ ?_); rotate_left; contradiction)) | (focus ((with_reducible refine wp_range1 ?_ ?_); rotate_left; contradiction)) | ((with_reducible apply isDs_ok); rfl; exact Nat.le_of_ble_eq_true rfl) | ((with_reducible apply isAt_ok); rfl) | ((with_reducible apply isMt_ok); rfl) | (focus ((with_reducible apply wp_app); rfl; rotate_left; first | contradiction | rotate_left)) | (focus ((with_reducible apply wp_extT); rfl; rotate_left; first | contradiction | rotate_left)) | (focus ((with_reducible apply wp_extA); rfl; rfl; rotate_left; first | contradiction | rotate_left)) | refine wp_ok ?_))
local macro_rules
  | `(tactic| simp_arith) => `(tactic| repeat infer_instance)
local macro_rules
  | `(tactic| simp_all_arith) => `(tactic| repeat (first | (fail_if_success (with_reducible refine ws_if ?_)); infer_instance))
local macro_rules
  | `(tactic| simp_arith [$a0:term]) => `(tactic| repeat (first | (with_reducible (first | refine wp_C ?_ | refine wp_m2 ?_ | refine wp_m1 ?_ | refine wp_B ?_ | refine isB_ok ?_ | refine if_tt ?_ | refine if_ff ?_ | refine isV_v ?_ | refine isO_o ?_ | refine ws_seq ?_ | refine ws_nil ?_ | refine wp_nil ?_ | refine wp_cons ?_ | refine wp_call ?_ | refine wp_callF ?_ | refine ws_if ?_ | refine ws_ret ?_ | refine ws_set ?_ | refine toSl_d ?_ | refine wp_tup ?_ | refine wp_lst ?_ | refine wp_frz ?_ | refine isFr_l ?_ | refine isFr_k ?_ | refine wp_and ?_ | refine wp_or ?_ | refine wp_not ?_ | refine wp_andV ?_ | refine wp_orV ?_ | refine wp_notV ?_ | refine wp_if ?_ | refine wp_eqI ?_ | refine wp_neI ?_ | refine wp_neB ?_ | refine wp_eqB ?_ | refine wp_addI ?_ | refine wp_subI ?_ | refine wp_ltI ?_ | refine wp_leI ?_ | refine wp_gtI ?_ | refine wp_geI ?_ | refine wp_int ?_ | refine wp_opI ?_ | refine wp_neg ?_ | refine wp_chain ?_ | refine ws_expr ?_ | refine ws_retF ?_ | refine ws_own ?_ | refine ws_loc ?_ | refine ws_frz ?_ | refine ws_unp ?_ | refine ws_FF ?_ | refine ws_FV ?_ | refine ws_VF ?_ | refine ws_par ?_ | refine ws_store ?_ | refine ws_augS ?_ | refine ws_storeK ?_ | refine ws_forK ?_ | refine wp_oN ?_ | refine wp_oS ?_ | refine isI_ok ?_ | refine wp_sl ?_ | refine wp_mt ?_ | refine wp_mt0 ?_ | refine wp_src ?_ | refine wp_items ?_ | refine wp_itemsA ?_ | refine wp_enum ?_ | refine wp_zip ?_ | refine wp_yes ?_ | refine wp_kget ?_ | refine wp_enumL ?_ | refine wp_itemL ?_ | refine wp_itemT ?_)) | ((with_reducible apply wp_is0 $a0); rfl) | infer_instance))
local macro_rules
  | `(tactic| simp_arith [$a0:term, $a1:term]) => `(tactic| repeat (first | (with_reducible (first | refine wp_C ?_ | refine wp_m2 ?_ | refine wp_m1 ?_ | refine wp_B ?_ | refine isB_ok ?_ | refine if_tt ?_ | refine if_ff ?_ | refine isV_v ?_ | refine isO_o ?_ | refine ws_seq ?_ | refine ws_nil ?_ | refine wp_nil ?_ | refine wp_cons ?_ | refine wp_call ?_ | refine wp_callF ?_ | refine ws_if ?_ | refine ws_ret ?_ | refine ws_set ?_ | refine toSl_d ?_ | refine wp_tup ?_ | refine wp_lst ?_ | refine wp_frz ?_ | refine isFr_l ?_ | refine isFr_k ?_ | refine wp_and ?_ | refine wp_or ?_ | refine wp_not ?_ | refine wp_andV ?_ | refine wp_orV ?_ | refine wp_notV ?_ | refine wp_if ?_ | refine wp_eqI ?_ | refine wp_neI ?_ | refine wp_neB ?_ | refine wp_eqB ?_ | refine wp_addI ?_ | refine wp_subI ?_ | refine wp_ltI ?_ | refine wp_leI ?_ | refine wp_gtI ?_ | refine wp_geI ?_ | refine wp_int ?_ | refine wp_opI ?_ | refine wp_neg ?_ | refine wp_chain ?_ | refine ws_expr ?_ | refine ws_retF ?_ | refine ws_own ?_ | refine ws_loc ?_ | refine ws_frz ?_ | refine ws_unp ?_ | refine ws_FF ?_ | refine ws_FV ?_ | refine ws_VF ?_ | refine ws_par ?_ | refine ws_store ?_ | refine ws_augS ?_ | refine ws_storeK ?_ | refine ws_forK ?_ | refine wp_oN ?_ | refine wp_oS ?_ | refine isI_ok ?_ | refine wp_sl ?_ | refine wp_mt ?_ | refine wp_mt0 ?_ | refine wp_src ?_ | refine wp_items ?_ | refine wp_itemsA ?_ | refine wp_enum ?_ | refine wp_zip ?_ | refine wp_yes ?_ | refine wp_kget ?_ | refine wp_enumL ?_ | refine wp_itemL ?_ | refine wp_itemT ?_)) | ((with_reducible apply wp_is0 $a0); rfl) | ((with_reducible apply wp_is0 $a1); rfl) | infer_instance))
local macro_rules
  | `(tactic| simp_arith [$a0:term, $a1:term, $a2:term]) => `(tactic| repeat (first | (with_reducible (first | refine wp_C ?_ | refine wp_m2 ?_ | refine wp_m1 ?_ | refine wp_B ?_ | refine isB_ok ?_ | refine if_tt ?_ | refine if_ff ?_ | refine isV_v ?_ | refine isO_o ?_ | refine ws_seq ?_ | refine ws_nil ?_ | refine wp_nil ?_ | refine wp_cons ?_ | refine wp_call ?_ | refine wp_callF ?_ | refine ws_if ?_ | refine ws_ret ?_ | refine ws_set ?_ | refine toSl_d ?_ | refine wp_tup ?_ | refine wp_lst ?_ | refine wp_frz ?_ | refine isFr_l ?_ | refine isFr_k ?_ | refine wp_and ?_ | refine wp_or ?_ | refine wp_not ?_ | refine wp_andV ?_ | refine wp_orV ?_ | refine wp_notV ?_ | refine wp_if ?_ | refine wp_eqI ?_ | refine wp_neI ?_ | refine wp_neB ?_ | refine wp_eqB ?_ | refine wp_addI ?_ | refine wp_subI ?_ | refine wp_ltI ?_ | refine wp_leI ?_ | refine wp_gtI ?_ | refine wp_geI ?_ | refine wp_int ?_ | refine wp_opI ?_ | refine wp_neg ?_ | refine wp_chain ?_ | refine ws_expr ?_ | refine ws_retF ?_ | refine ws_own ?_ | refine ws_loc ?_ | refine ws_frz ?_ | refine ws_unp ?_ | refine ws_FF ?_ | refine ws_FV ?_ | refine ws_VF ?_ | refine ws_par ?_ | refine ws_store ?_ | refine ws_augS ?_ | refine ws_storeK ?_ | refine ws_forK ?_ | refine wp_oN ?_ | refine wp_oS ?_ | refine isI_ok ?_ | refine wp_sl ?_ | refine wp_mt ?_ | refine wp_mt0 ?_ | refine wp_src ?_ | refine wp_items ?_ | refine wp_itemsA ?_ | refine wp_enum ?_ | refine wp_zip ?_ | refine wp_yes ?_ | refine wp_kget ?_ | refine wp_enumL ?_ | refine wp_itemL ?_ | refine wp_itemT ?_)) | ((with_reducible apply wp_is0 $a0); rfl) | ((with_reducible apply wp_is0 $a1); rfl) | ((with_reducible apply wp_is0 $a2); rfl) | infer_instance))
local macro_rules
  | `(tactic| simp_arith [$a0:term, $a1:term, $a2:term, $a3:term]) => `(tactic| repeat (first | (with_reducible (first | refine wp_C ?_ | refine wp_m2 ?_ | refine wp_m1 ?_ | refine wp_B ?_ | refine isB_ok ?_ | refine if_tt ?_ | refine if_ff ?_ | refine isV_v ?_ | refine isO_o ?_ | refine ws_seq ?_ | refine ws_nil ?_ | refine wp_nil ?_ | refine wp_cons ?_ | refine wp_call ?_ | refine wp_callF ?_ | refine ws_if ?_ | refine ws_ret ?_ | refine ws_set ?_ | refine toSl_d ?_ | refine wp_tup ?_ | refine wp_lst ?_ | refine wp_frz ?_ | refine isFr_l ?_ | refine isFr_k ?_ | refine wp_and ?_ | refine wp_or ?_ | refine wp_not ?_ | refine wp_andV ?_ | refine wp_orV ?_ | refine wp_notV ?_ | refine wp_if ?_ | refine wp_eqI ?_ | refine wp_neI ?_ | refine wp_neB ?_ | refine wp_eqB ?_ | refine wp_addI ?_ | refine wp_subI ?_ | refine wp_ltI ?_ | refine wp_leI ?_ | refine wp_gtI ?_ | refine wp_geI ?_ | refine wp_int ?_ | refine wp_opI ?_ | refine wp_neg ?_ | refine wp_chain ?_ | refine ws_expr ?_ | refine ws_retF ?_ | refine ws_own ?_ | refine ws_loc ?_ | refine ws_frz ?_ | refine ws_unp ?_ | refine ws_FF ?_ | refine ws_FV ?_ | refine ws_VF ?_ | refine ws_par ?_ | refine ws_store ?_ | refine ws_augS ?_ | refine ws_storeK ?_ | refine ws_forK ?_ | refine wp_oN ?_ | refine wp_oS ?_ | refine isI_ok ?_ | refine wp_sl ?_ | refine wp_mt ?_ | refine wp_mt0 ?_ | refine wp_src ?_ | refine wp_items ?_ | refine wp_itemsA ?_ | refine wp_enum ?_ | refine wp_zip ?_ | refine wp_yes ?_ | refine wp_kget ?_ | refine wp_enumL ?_ | refine wp_itemL ?_ | refine wp_itemT ?_)) | ((with_reducible apply wp_is0 $a0); rfl) | ((with_reducible apply wp_is0 $a1); rfl) | ((with_reducible apply wp_is0 $a2); rfl) | ((with_reducible apply wp_is0 $a3); rfl) | infer_instance))
local macro_rules
  | `(tactic| simp_arith [$a0:term, $a1:term, $a2:term, $a3:term, $a4:term]) => `(tactic| repeat (first | (with_reducible (first | refine wp_C ?_ | refine wp_m2 ?_ | refine wp_m1 ?_ | refine wp_B ?_ | refine isB_ok ?_ | refine if_tt ?_ | refine if_ff ?_ | refine isV_v ?_ | refine isO_o ?_ | refine ws_seq ?_ | refine ws_nil ?_ | refine wp_nil ?_ | refine wp_cons ?_ | refine wp_call ?_ | refine wp_callF ?_ | refine ws_if ?_ | refine ws_ret ?_ | refine ws_set ?_ | refine toSl_d ?_ | refine wp_tup ?_ | refine wp_lst ?_ | refine wp_frz ?_ | refine isFr_l ?_ | refine isFr_k ?_ | refine wp_and ?_ | refine wp_or ?_ | refine wp_not ?_ | refine wp_andV ?_ | refine wp_orV ?_ | refine wp_notV ?_ | refine wp_if ?_ | refine wp_eqI ?_ | refine wp_neI ?_ | refine wp_neB ?_ | refine wp_eqB ?_ | refine wp_addI ?_ | refine wp_subI ?_ | refine wp_ltI ?_ | refine wp_leI ?_ | refine wp_gtI ?_ | refine wp_geI ?_ | refine wp_int ?_ | refine wp_opI ?_ | refine wp_neg ?_ | refine wp_chain ?_ | refine ws_expr ?_ | refine ws_retF ?_ | refine ws_own ?_ | refine ws_loc ?_ | refine ws_frz ?_ | refine ws_unp ?_ | refine ws_FF ?_ | refine ws_FV ?_ | refine ws_VF ?_ | refine ws_par ?_ | refine ws_store ?_ | refine ws_augS ?_ | refine ws_storeK ?_ | refine ws_forK ?_ | refine wp_oN ?_ | refine wp_oS ?_ | refine isI_ok ?_ | refine wp_sl ?_ | refine wp_mt ?_ | refine wp_mt0 ?_ | refine wp_src ?_ | refine wp_items ?_ | refine wp_itemsA ?_ | refine wp_enum ?_ | refine wp_zip ?_ | refine wp_yes ?_ | refine wp_kget ?_ | refine wp_enumL ?_ | refine wp_itemL ?_ | refine wp_itemT ?_)) | ((with_reducible apply wp_is0 $a0); rfl) | ((with_reducible apply wp_is0 $a1); rfl) | ((with_reducible apply wp_is0 $a2); rfl) | ((with_reducible apply wp_is0 $a3); rfl) | ((with_reducible apply wp_is0 $a4); rfl) | infer_instance))
local macro_rules
  | `(tactic| simp_arith [$a0:term, $a1:term, $a2:term, $a3:term, $a4:term, $a5:term]) => `(tactic| repeat (first | (with_reducible (first | refine wp_C ?_ | refine wp_m2 ?_ | refine wp_m1 ?_ | refine wp_B ?_ | refine isB_ok ?_ | refine if_tt ?_ | refine if_ff ?_ | refine isV_v ?_ | refine isO_o ?_ | refine ws_seq ?_ | refine ws_nil ?_ | refine wp_nil ?_ | refine wp_cons ?_ | refine wp_call ?_ | refine wp_callF ?_ | refine ws_if ?_ | refine ws_ret ?_ | refine ws_set ?_ | refine toSl_d ?_ | refine wp_tup ?_ | refine wp_lst ?_ | refine wp_frz ?_ | refine isFr_l ?_ | refine isFr_k ?_ | refine wp_and ?_ | refine wp_or ?_ | refine wp_not ?_ | refine wp_andV ?_ | refine wp_orV ?_ | refine wp_notV ?_ | refine wp_if ?_ | refine wp_eqI ?_ | refine wp_neI ?_ | refine wp_neB ?_ | refine wp_eqB ?_ | refine wp_addI ?_ | refine wp_subI ?_ | refine wp_ltI ?_ | refine wp_leI ?_ | refine wp_gtI ?_ | refine wp_geI ?_ | refine wp_int ?_ | refine wp_opI ?_ | refine wp_neg ?_ | refine wp_chain ?_ | refine ws_expr ?_ | refine ws_retF ?_ | refine ws_own ?_ | refine ws_loc ?_ | refine ws_frz ?_ | refine ws_unp ?_ | refine ws_FF ?_ | refine ws_FV ?_ | refine ws_VF ?_ | refine ws_par ?_ | refine ws_store ?_ | refine ws_augS ?_ | refine ws_storeK ?_ | refine ws_forK ?_ | refine wp_oN ?_ | refine wp_oS ?_ | refine isI_ok ?_ | refine wp_sl ?_ | refine wp_mt ?_ | refine wp_mt0 ?_ | refine wp_src ?_ | refine wp_items ?_ | refine wp_itemsA ?_ | refine wp_enum ?_ | refine wp_zip ?_ | refine wp_yes ?_ | refine wp_kget ?_ | refine wp_enumL ?_ | refine wp_itemL ?_ | refine wp_itemT ?_)) | ((with_reducible apply wp_is0 $a0); rfl) | ((with_reducible apply wp_is0 $a1); rfl) | ((with_reducible apply wp_is0 $a2); rfl) | ((with_reducible apply wp_is0 $a3); rfl) | ((with_reducible apply wp_is0 $a4); rfl) | ((with_reducible apply wp_is0 $a5); rfl) | infer_instance))
local macro_rules
  | `(tactic| simp_arith [$a0:term, $a1:term, $a2:term, $a3:term, $a4:term, $a5:term, $a6:term]) => `(tactic| repeat (first | (with_reducible (first | refine wp_C ?_ | refine wp_m2 ?_ | refine wp_m1 ?_ | refine wp_B ?_ | refine isB_ok ?_ | refine if_tt ?_ | refine if_ff ?_ | refine isV_v ?_ | refine isO_o ?_ | refine ws_seq ?_ | refine ws_nil ?_ | refine wp_nil ?_ | refine wp_cons ?_ | refine wp_call ?_ | refine wp_callF ?_ | refine ws_if ?_ | refine ws_ret ?_ | refine ws_set ?_ | refine toSl_d ?_ | refine wp_tup ?_ | refine wp_lst ?_ | refine wp_frz ?_ | refine isFr_l ?_ | refine isFr_k ?_ | refine wp_and ?_ | refine wp_or ?_ | refine wp_not ?_ | refine wp_andV ?_ | refine wp_orV ?_ | refine wp_notV ?_ | refine wp_if ?_ | refine wp_eqI ?_ | refine wp_neI ?_ | refine wp_neB ?_ | refine wp_eqB ?_ | refine wp_addI ?_ | refine wp_subI ?_ | refine wp_ltI ?_ | refine wp_leI ?_ | refine wp_gtI ?_ | refine wp_geI ?_ | refine wp_int ?_ | refine wp_opI ?_ | refine wp_neg ?_ | refine wp_chain ?_ | refine ws_expr ?_ | refine ws_retF ?_ | refine ws_own ?_ | refine ws_loc ?_ | refine ws_frz ?_ | refine ws_unp ?_ | refine ws_FF ?_ | refine ws_FV ?_ | refine ws_VF ?_ | refine ws_par ?_ | refine ws_store ?_ | refine ws_augS ?_ | refine ws_storeK ?_ | refine ws_forK ?_ | refine wp_oN ?_ | refine wp_oS ?_ | refine isI_ok ?_ | refine wp_sl ?_ | refine wp_mt ?_ | refine wp_mt0 ?_ | refine wp_src ?_ | refine wp_items ?_ | refine wp_itemsA ?_ | refine wp_enum ?_ | refine wp_zip ?_ | refine wp_yes ?_ | refine wp_kget ?_ | refine wp_enumL ?_ | refine wp_itemL ?_ | refine wp_itemT ?_)) | ((with_reducible apply wp_is0 $a0); rfl) | ((with_reducible apply wp_is0 $a1); rfl) | ((with_reducible apply wp_is0 $a2); rfl) | ((with_reducible apply wp_is0 $a3); rfl) | ((with_reducible apply wp_is0 $a4); rfl) | ((with_reducible apply wp_is0 $a5); rfl) | ((with_reducible apply wp_is0 $a6); rfl) | infer_instance))
local macro_rules
  | `(tactic| simp_arith [$a0:term, $a1:term, $a2:term, $a3:term, $a4:term, $a5:term, $a6:term, $a7:term]) => `(tactic| repeat (first | (with_reducible (first | refine wp_C ?_ | refine wp_m2 ?_ | refine wp_m1 ?_ | refine wp_B ?_ | refine isB_ok ?_ | refine if_tt ?_ | refine if_ff ?_ | refine isV_v ?_ | refine isO_o ?_ | refine ws_seq ?_ | refine ws_nil ?_ | refine wp_nil ?_ | refine wp_cons ?_ | refine wp_call ?_ | refine wp_callF ?_ | refine ws_if ?_ | refine ws_ret ?_ | refine ws_set ?_ | refine toSl_d ?_ | refine wp_tup ?_ | refine wp_lst ?_ | refine wp_frz ?_ | refine isFr_l ?_ | refine isFr_k ?_ | refine wp_and ?_ | refine wp_or ?_ | refine wp_not ?_ | refine wp_andV ?_ | refine wp_orV ?_ | refine wp_notV ?_ | refine wp_if ?_ | refine wp_eqI ?_ | refine wp_neI ?_ | refine wp_neB ?_ | refine wp_eqB ?_ | refine wp_addI ?_ | refine wp_subI ?_ | refine wp_ltI ?_ | refine wp_leI ?_ | refine wp_gtI ?_ | refine wp_geI ?_ | refine wp_int ?_ | refine wp_opI ?_ | refine wp_neg ?_ | refine wp_chain ?_ | refine ws_expr ?_ | refine ws_retF ?_ | refine ws_own ?_ | refine ws_loc ?_ | refine ws_frz ?_ | refine ws_unp ?_ | refine ws_FF ?_ | refine ws_FV ?_ | refine ws_VF ?_ | refine ws_par ?_ | refine ws_store ?_ | refine ws_augS ?_ | refine ws_storeK ?_ | refine ws_forK ?_ | refine wp_oN ?_ | refine wp_oS ?_ | refine isI_ok ?_ | refine wp_sl ?_ | refine wp_mt ?_ | refine wp_mt0 ?_ | refine wp_src ?_ | refine wp_items ?_ | refine wp_itemsA ?_ | refine wp_enum ?_ | refine wp_zip ?_ | refine wp_yes ?_ | refine wp_kget ?_ | refine wp_enumL ?_ | refine wp_itemL ?_ | refine wp_itemT ?_)) | ((with_reducible apply wp_is0 $a0); rfl) | ((with_reducible apply wp_is0 $a1); rfl) | ((with_reducible apply wp_is0 $a2); rfl) | ((with_reducible apply wp_is0 $a3); rfl) | ((with_reducible apply wp_is0 $a4); rfl) | ((with_reducible apply wp_is0 $a5); rfl) | ((with_reducible apply wp_is0 $a6); rfl) | ((with_reducible apply wp_is0 $a7); rfl) | infer_instance))
local macro_rules
  | `(tactic| array_get_dec) => `(tactic| (first | (with_reducible (first | apply pv_C | apply pv_kt | apply pl_nil | apply tb_yes | apply pi_N | apply po_dnew | apply pv_m2 | apply pv_m1 | apply pl_cons | apply pv_call | apply po_callF | apply pv_frzL | apply tb_B | apply tb_not | apply pv_notV | apply pi_S | apply pv_sl | apply pj_itemsA | apply pj_items | apply pj_enum | apply pj_src | apply pj_zip | apply pv_tup | apply po_lst | apply a_eqI | apply a_neI | apply a_eqB | apply a_neB | apply a_addI | apply a_subI | apply a_leI | apply a_ltI | apply a_gtI | apply a_geI | apply a_ltS | apply a_lenL | apply a_lenT | apply a_tuple | apply a_tupT | apply a_listL | apply a_listT | apply a_intB | apply a_intI | apply a_slL | apply a_slT | apply a_isN | apply a_notN | apply aj_lst | apply aj_tup | apply aj_kt | apply aj_frz | apply aj_enumL | apply a_all | apply a_any | apply tb_and | apply tb_or | apply pv_andV | apply pv_orV | apply pv_chain | apply pv_ifD)) | ((with_reducible apply pv_d); rfl) | ((with_reducible apply pv_o); rfl) | ((with_reducible apply pv_f); rfl) | ((with_reducible apply pv_l); rfl) | ((with_reducible apply a_isi); first | rfl | assumption) | (focus ((with_reducible apply a_eqS); contradiction; contradiction)) | (focus ((with_reducible apply a_neS); contradiction; contradiction)) | (focus ((with_reducible apply a_addL); contradiction)) | (focus ((with_reducible apply a_addT); contradiction)) | (focus ((with_reducible apply a_lenS); contradiction)) | (focus ((with_reducible apply aj_str); contradiction)) | (focus ((with_reducible apply aj_range1); contradiction)) | (focus ((with_reducible apply aj_zipT); contradiction)) | (focus ((with_reducible apply aj_zipL); contradiction))))
local macro_rules
  | `(tactic| simp_arith!) => `(tactic| repeat (first | array_get_dec | exact tb_absF rfl | exact tb_absT rfl | exact pv_absF rfl | exact pv_absT rfl | exact a2_absT rfl | intro _ | exact (false : Bool) | ((with_reducible apply a_ix); rfl) | ((with_reducible apply a_ixL); rfl) | (exact Nat.le_of_ble_eq_true rfl) | exact rfl))
local macro_rules
  | `(tactic| simp_arith! [$a0:term]) => `(tactic| repeat (first | array_get_dec | ((with_reducible apply a_is0 $a0); rfl) | ((with_reducible apply a2_id); exact $a0) | ((with_reducible apply ao_id); exact $a0) | (with_reducible exact $a0) | exact tb_absF rfl | exact tb_absT rfl | exact pv_absF rfl | exact pv_absT rfl | exact a2_absT rfl | intro _ | exact (false : Bool) | ((with_reducible apply a_ix); rfl) | ((with_reducible apply a_ixL); rfl) | (exact Nat.le_of_ble_eq_true rfl) | exact rfl))
local macro_rules
  | `(tactic| simp_arith! [$a0:term, $a1:term]) => `(tactic| repeat (first | array_get_dec | ((with_reducible apply a_is0 $a0); rfl) | ((with_reducible apply a2_id); exact $a0) | ((with_reducible apply ao_id); exact $a0) | (with_reducible exact $a0) | ((with_reducible apply a_is0 $a1); rfl) | ((with_reducible apply a2_id); exact $a1) | ((with_reducible apply ao_id); exact $a1) | (with_reducible exact $a1) | exact tb_absF rfl | exact tb_absT rfl | exact pv_absF rfl | exact pv_absT rfl | exact a2_absT rfl | intro _ | exact (false : Bool) | ((with_reducible apply a_ix); rfl) | ((with_reducible apply a_ixL); rfl) | (exact Nat.le_of_ble_eq_true rfl) | exact rfl))
local macro_rules
  | `(tactic| simp_arith! [$a0:term, $a1:term, $a2:term]) => `(tactic| repeat (first | array_get_dec | ((with_reducible apply a_is0 $a0); rfl) | ((with_reducible apply a2_id); exact $a0) | ((with_reducible apply ao_id); exact $a0) | (with_reducible exact $a0) | ((with_reducible apply a_is0 $a1); rfl) | ((with_reducible apply a2_id); exact $a1) | ((with_reducible apply ao_id); exact $a1) | (with_reducible exact $a1) | ((with_reducible apply a_is0 $a2); rfl) | ((with_reducible apply a2_id); exact $a2) | ((with_reducible apply ao_id); exact $a2) | (with_reducible exact $a2) | exact tb_absF rfl | exact tb_absT rfl | exact pv_absF rfl | exact pv_absT rfl | exact a2_absT rfl | intro _ | exact (false : Bool) | ((with_reducible apply a_ix); rfl) | ((with_reducible apply a_ixL); rfl) | (exact Nat.le_of_ble_eq_true rfl) | exact rfl))
local macro_rules
  | `(tactic| simp_arith! [$a0:term, $a1:term, $a2:term, $a3:term]) => `(tactic| repeat (first | array_get_dec | ((with_reducible apply a_is0 $a0); rfl) | ((with_reducible apply a2_id); exact $a0) | ((with_reducible apply ao_id); exact $a0) | (with_reducible exact $a0) | ((with_reducible apply a_is0 $a1); rfl) | ((with_reducible apply a2_id); exact $a1) | ((with_reducible apply ao_id); exact $a1) | (with_reducible exact $a1) | ((with_reducible apply a_is0 $a2); rfl) | ((with_reducible apply a2_id); exact $a2) | ((with_reducible apply ao_id); exact $a2) | (with_reducible exact $a2) | ((with_reducible apply a_is0 $a3); rfl) | ((with_reducible apply a2_id); exact $a3) | ((with_reducible apply ao_id); exact $a3) | (with_reducible exact $a3) | exact tb_absF rfl | exact tb_absT rfl | exact pv_absF rfl | exact pv_absT rfl | exact a2_absT rfl | intro _ | exact (false : Bool) | ((with_reducible apply a_ix); rfl) | ((with_reducible apply a_ixL); rfl) | (exact Nat.le_of_ble_eq_true rfl) | exact rfl))
local macro_rules
  | `(tactic| simp_arith! [$a0:term, $a1:term, $a2:term, $a3:term, $a4:term]) => `(tactic| repeat (first | array_get_dec | ((with_reducible apply a_is0 $a0); rfl) | ((with_reducible apply a2_id); exact $a0) | ((with_reducible apply ao_id); exact $a0) | (with_reducible exact $a0) | ((with_reducible apply a_is0 $a1); rfl) | ((with_reducible apply a2_id); exact $a1) | ((with_reducible apply ao_id); exact $a1) | (with_reducible exact $a1) | ((with_reducible apply a_is0 $a2); rfl) | ((with_reducible apply a2_id); exact $a2) | ((with_reducible apply ao_id); exact $a2) | (with_reducible exact $a2) | ((with_reducible apply a_is0 $a3); rfl) | ((with_reducible apply a2_id); exact $a3) | ((with_reducible apply ao_id); exact $a3) | (with_reducible exact $a3) | ((with_reducible apply a_is0 $a4); rfl) | ((with_reducible apply a2_id); exact $a4) | ((with_reducible apply ao_id); exact $a4) | (with_reducible exact $a4) | exact tb_absF rfl | exact tb_absT rfl | exact pv_absF rfl | exact pv_absT rfl | exact a2_absT rfl | intro _ | exact (false : Bool) | ((with_reducible apply a_ix); rfl) | ((with_reducible apply a_ixL); rfl) | (exact Nat.le_of_ble_eq_true rfl) | exact rfl))
local macro_rules
  | `(tactic| simp_arith! [$a0:term, $a1:term, $a2:term, $a3:term, $a4:term, $a5:term]) => `(tactic| repeat (first | array_get_dec | ((with_reducible apply a_is0 $a0); rfl) | ((with_reducible apply a2_id); exact $a0) | ((with_reducible apply ao_id); exact $a0) | (with_reducible exact $a0) | ((with_reducible apply a_is0 $a1); rfl) | ((with_reducible apply a2_id); exact $a1) | ((with_reducible apply ao_id); exact $a1) | (with_reducible exact $a1) | ((with_reducible apply a_is0 $a2); rfl) | ((with_reducible apply a2_id); exact $a2) | ((with_reducible apply ao_id); exact $a2) | (with_reducible exact $a2) | ((with_reducible apply a_is0 $a3); rfl) | ((with_reducible apply a2_id); exact $a3) | ((with_reducible apply ao_id); exact $a3) | (with_reducible exact $a3) | ((with_reducible apply a_is0 $a4); rfl) | ((with_reducible apply a2_id); exact $a4) | ((with_reducible apply ao_id); exact $a4) | (with_reducible exact $a4) | ((with_reducible apply a_is0 $a5); rfl) | ((with_reducible apply a2_id); exact $a5) | ((with_reducible apply ao_id); exact $a5) | (with_reducible exact $a5) | exact tb_absF rfl | exact tb_absT rfl | exact pv_absF rfl | exact pv_absT rfl | exact a2_absT rfl | intro _ | exact (false : Bool) | ((with_reducible apply a_ix); rfl) | ((with_reducible apply a_ixL); rfl) | (exact Nat.le_of_ble_eq_true rfl) | exact rfl))
local macro_rules
  | `(tactic| simp_arith! [$a0:term, $a1:term, $a2:term, $a3:term, $a4:term, $a5:term, $a6:term]) => `(tactic| repeat (first | array_get_dec | ((with_reducible apply a_is0 $a0); rfl) | ((with_reducible apply a2_id); exact $a0) | ((with_reducible apply ao_id); exact $a0) | (with_reducible exact $a0) | ((with_reducible apply a_is0 $a1); rfl) | ((with_reducible apply a2_id); exact $a1) | ((with_reducible apply ao_id); exact $a1) | (with_reducible exact $a1) | ((with_reducible apply a_is0 $a2); rfl) | ((with_reducible apply a2_id); exact $a2) | ((with_reducible apply ao_id); exact $a2) | (with_reducible exact $a2) | ((with_reducible apply a_is0 $a3); rfl) | ((with_reducible apply a2_id); exact $a3) | ((with_reducible apply ao_id); exact $a3) | (with_reducible exact $a3) | ((with_reducible apply a_is0 $a4); rfl) | ((with_reducible apply a2_id); exact $a4) | ((with_reducible apply ao_id); exact $a4) | (with_reducible exact $a4) | ((with_reducible apply a_is0 $a5); rfl) | ((with_reducible apply a2_id); exact $a5) | ((with_reducible apply ao_id); exact $a5) | (with_reducible exact $a5) | ((with_reducible apply a_is0 $a6); rfl) | ((with_reducible apply a2_id); exact $a6) | ((with_reducible apply ao_id); exact $a6) | (with_reducible exact $a6) | exact tb_absF rfl | exact tb_absT rfl | exact pv_absF rfl | exact pv_absT rfl | exact a2_absT rfl | intro _ | exact (false : Bool) | ((with_reducible apply a_ix); rfl) | ((with_reducible apply a_ixL); rfl) | (exact Nat.le_of_ble_eq_true rfl) | exact rfl))
local macro_rules
  | `(tactic| simp_arith! [$a0:term, $a1:term, $a2:term, $a3:term, $a4:term, $a5:term, $a6:term, $a7:term]) => `(tactic| repeat (first | array_get_dec | ((with_reducible apply a_is0 $a0); rfl) | ((with_reducible apply a2_id); exact $a0) | ((with_reducible apply ao_id); exact $a0) | (with_reducible exact $a0) | ((with_reducible apply a_is0 $a1); rfl) | ((with_reducible apply a2_id); exact $a1) | ((with_reducible apply ao_id); exact $a1) | (with_reducible exact $a1) | ((with_reducible apply a_is0 $a2); rfl) | ((with_reducible apply a2_id); exact $a2) | ((with_reducible apply ao_id); exact $a2) | (with_reducible exact $a2) | ((with_reducible apply a_is0 $a3); rfl) | ((with_reducible apply a2_id); exact $a3) | ((with_reducible apply ao_id); exact $a3) | (with_reducible exact $a3) | ((with_reducible apply a_is0 $a4); rfl) | ((with_reducible apply a2_id); exact $a4) | ((with_reducible apply ao_id); exact $a4) | (with_reducible exact $a4) | ((with_reducible apply a_is0 $a5); rfl) | ((with_reducible apply a2_id); exact $a5) | ((with_reducible apply ao_id); exact $a5) | (with_reducible exact $a5) | ((with_reducible apply a_is0 $a6); rfl) | ((with_reducible apply a2_id); exact $a6) | ((with_reducible apply ao_id); exact $a6) | (with_reducible exact $a6) | ((with_reducible apply a_is0 $a7); rfl) | ((with_reducible apply a2_id); exact $a7) | ((with_reducible apply ao_id); exact $a7) | (with_reducible exact $a7) | exact tb_absF rfl | exact tb_absT rfl | exact pv_absF rfl | exact pv_absT rfl | exact a2_absT rfl | intro _ | exact (false : Bool) | ((with_reducible apply a_ix); rfl) | ((with_reducible apply a_ixL); rfl) | (exact Nat.le_of_ble_eq_true rfl) | exact rfl))
theorem names_in_is {f : Fm} (hf : ok1 f) (hd : fd f ≤ 15) (hz : sz f ≤ 180) : Is F_names_in [.d (enc f)] (.tuple ((setL ltS (nm f)).map .str)) := by
  unfold F_names_in
  refine is_fun fun sto => ?_
  simp_arith
  refine ws_while (fun n s => ∃ (fs : List Fm) (xs : List Str) (x3 : Sl), s = ⟨[.d (enc f), .own (.lst (encs fs)), .own (.dk (truD xs)), x3], sto⟩ ∧ szs fs ≤ n ∧ xs.Nodup ∧ (∀ x, (x ∈ xs ∨ x ∈ nms fs) ↔ x ∈ nm f) ∧ 3 * xs.length + szs fs ≤ 180 ∧ oks fs ∧ fds fs ≤ 15) ?_ wFuel (sz f) _ (by show sz f < 1000000; omega)
    ⟨[f], [], _, rfl, by simp [szs], by simp, fun x => by simp [nms_one], by simp [szs]; omega, ⟨hf, trivial⟩, by simp only [fds]; omega⟩
  rintro n s ⟨fs, xs, x3, rfl, hn, hnd, hm, hb, ho, hfd⟩
  simp_arith
  refine wp_neD (d := .list (encs fs)) (e := .list []) rfl rfl ?_ (shl_shaped (sh_encl ho (by omega))) (by decide)
  rw [eqv_nil]
  simp_arith
  refine if_t (fun h => ?_) fun h => ?_
  · have hne : fs ≠ [] := fun e => by subst e; cases h
    obtain ⟨gs, g, rfl⟩ := last_ex hne
    have ho := (Ons_app gs [g]).mp ho
    rw [fds_app] at hfd
    have hg : ok1 g := ho.2.1
    have hgd : fd g ≤ 15 := by simp only [fds] at hfd; omega
    rw [szs_app] at hn hb
    have hpos := sz_pos g
    simp only [szs] at hn hb
    refine ⟨n - 1, by omega, ?_⟩
    simp_arith
    refine wp_pop (ds := encs gs) (y := enc g) (by rw [encs_app]; rfl) ?_
    simp_arith
    cases g with
    | gift x =>
      rw [enc]
      simp_arith
      (refine if_tt' rfl ?_)
      simp_arith
      refine wp_storeK (k := .inr x) (kvs := truD xs) rfl rfl ?_ ?_
      · unfold truD
        rw [List.length_map]; omega
      · rw [put_tru]
        refine ⟨gs, addS xs x, _, rfl, ?_, addS_nodup hnd, fun y => ?_, ?_, ho.1, by omega⟩
        · simp only [sz] at hn; omega
        · rw [addS_mem, ← hm y, nms_app, nms_one, nm, List.mem_append, List.mem_singleton]
          constructor
          · rintro ((a | a) | a)
            · exact .inl a
            · exact .inr (.inr a)
            · exact .inr (.inl a)
          · rintro (a | a | a)
            · exact .inl (.inl a)
            · exact .inr a
            · exact .inl (.inr a)
        · have := addS_len (xs := xs) (x := x)
          simp only [sz] at hn hb; omega
    | node w ps =>
      rw [enc]
      simp_arith
      refine wp_eqS ?_ (shw w) shg
      rw [wd_ne]
      simp_arith
      · refine ⟨gs ++ ps, xs, _, by rw [encs_app gs ps]; rfl, ?_, hnd, fun y => ?_, ?_, ?_, ?_⟩
        · rw [szs_app]; simp only [sz] at hn; omega
        · rw [← hm y, nms_app, nms_app, nms_one, nm]
        · rw [szs_app]; simp only [sz] at hn hb; omega
        · exact (Ons_app gs ps).mpr ⟨ho.1, hg⟩
        · rw [fds_app]; simp only [fds, fd] at hfd hgd ⊢; omega
      · rw [encs_len, encs_len]
        have := len_szs gs
        have := len_szs ps
        simp only [sz] at hb
        exact szl (by omega)
  · have h : encs fs = [] := by simpa using h
    obtain rfl : fs = [] := by
      cases fs with
      | nil => rfl
      | cons a b => cases h
    simp_arith
    refine wp_sortD rfl (by omega) ?_
    simp_arith
    refine ⟨?_, rfl⟩
    rw [sort_set hnd (ys := nm f) fun x => by rw [← hm x]; simp [nms]]
theorem l_names_in_is : ∀ (n : Nat) (f : Fm), fd f < n → sz f ≤ 1000 → Is (F_l_names_in n) [.d (enc f)] (.list ((setL ltS (nm f)).map .str))
  | 0, f, h, _ => by omega
  | n + 1, .gift x, h, _ => by
    show Is (M_l_names_in (F_l_names_in _)) _ _
    unfold M_l_names_in
    refine is_fun fun sto => ?_
    rw [enc]
    refine ws_seq ?_
    apply ws_ifP
    · simp_arith!
    all_goals intro h
    · apply ws_retP
      · simp_arith!
      exact ⟨by rw [nm, set_one]; rfl, rfl⟩
    · exact Bool.noConfusion (show true = false from h)
  | n + 1, .node w ps, h, hz => by
    show Is (M_l_names_in (F_l_names_in _)) _ _
    unfold M_l_names_in
    refine is_fun fun sto => ?_
    rw [enc, encs_map]
    have hl := len_szs ps
    rw [sz] at hz
    have ih : ∀ a ∈ ps, Is (F_l_names_in n) [.d (enc a)] (.list ((setL ltS (nm a)).map .str)) := fun a ha => l_names_in_is n a (Nat.lt_of_le_of_lt (fd_mem ha) (Nat.lt_of_succ_lt_succ h)) (Nat.le_trans (szs_mem ha) (by omega))
    refine ws_seq ?_
    apply ws_ifP
    · simp_arith! [a_eqS (shw w) shg]
    all_goals intro h
    · rw [wd_ne] at h; cases h
    refine ws_nil ?_
    refine ws_seq ?_
    apply ws_setP
    · simp_arith!
    refine ws_seq ?_
    refine ws_forF ps enc (fun acc p => acc ++ setL ltS (nm p)) [] (fun acc s => ∃ x2, s = ⟨[.d (.tuple [.str (wd w), .tuple (ps.map enc)]), .d (.list (acc.map .str)), x2], sto⟩) ?_ ?_ ?_
    · simp_arith
      exact ⟨rfl, fun _ => trivial, rfl, _, rfl⟩
    · rintro pre a post s e ⟨x2, rfl⟩
      refine ⟨_, rfl, ?_⟩
      have hp := fold_len pre []
      have ha : a ∈ ps := by rw [e]; simp
      have hsz : szs ps = szs pre + sz a + szs post := by rw [e, szs_app, szs]; omega
      have h1 := setL_len (nm a)
      have h2 := nm_len a
      rw [List.length_nil] at hp
      simp_arith [(ih a ha)]
      exact ⟨_, by rw [← List.map_append]; rfl⟩
    · rintro s ⟨x2, rfl⟩
      have hlen : (ps.foldl (fun acc p => acc ++ setL ltS (nm p)) []).length ≤ 1000 := by
        have := fold_len ps []
        rw [List.length_nil] at this
        omega
      have hmem : ∀ x, x ∈ ps.foldl (fun acc p => acc ++ setL ltS (nm p)) [] ↔ x ∈ nms ps := fun x => by
        rw [fold_mem]; simp
      generalize ps.foldl (fun acc p => acc ++ setL ltS (nm p)) [] = L at hlen hmem
      apply ws_retP
      · simp_arith!
        · exact a_setL (Nat.lt_of_le_of_lt (show _ ≤ 1001 by omega) (by decide))
      · exact ⟨by rw [nm, set_set hmem], rfl⟩
end Lk01
set_option Elab.async false
set_option linter.all false
set_option maxRecDepth 100000
set_option maxHeartbeats 400000
namespace Lk01
open PySem PySem.Spec PyProof.Rows L2 RA
local macro_rules
  | `(tactic| contradiction) => `(tactic| (first | decide +kernel | omega | assumption | exact sh_shaped (by assumption) | exact ⟨by omega, by omega⟩ | exact Or.inl (by decide) | exact Or.inr (by decide) | exact szl (by omega) | exact szl (by simp only [List.length_map, List.length_append, List.length_cons, List.length_nil]; omega)))
local macro_rules
  | `(tactic| infer_instance) => `(tactic| (first | (with_reducible (first | refine wp_C ?_ | refine wp_m2 ?_ | refine wp_m1 ?_ | refine wp_B ?_ | refine isB_ok ?_ | refine if_tt ?_ | refine if_ff ?_ | refine isV_v ?_ | refine isO_o ?_ | refine ws_seq ?_ | refine ws_nil ?_ | refine wp_nil ?_ | refine wp_cons ?_ | refine wp_call ?_ | refine wp_callF ?_ | refine ws_if ?_ | refine ws_ret ?_ | refine ws_set ?_ | refine toSl_d ?_ | refine wp_tup ?_ | refine wp_lst ?_ | refine wp_frz ?_ | refine isFr_l ?_ | refine isFr_k ?_ | refine wp_and ?_ | refine wp_or ?_ | refine wp_not ?_ | refine wp_andV ?_ | refine wp_orV ?_ | refine wp_notV ?_ | refine wp_if ?_ | refine wp_eqI ?_ | refine wp_neI ?_ | refine wp_neB ?_ | refine wp_eqB ?_ | refine wp_addI ?_ | refine wp_subI ?_ | refine wp_ltI ?_ | refine wp_leI ?_ | refine wp_gtI ?_ | refine wp_geI ?_ | refine wp_int ?_ | refine wp_opI ?_ | refine wp_neg ?_ | refine wp_chain ?_ | refine ws_expr ?_ | refine ws_retF ?_ | refine ws_own ?_ | refine ws_loc ?_ | refine ws_frz ?_ | refine ws_unp ?_ | refine ws_FF ?_ | refine ws_FV ?_ | refine ws_VF ?_ | refine ws_par ?_ | refine ws_store ?_ | refine ws_augS ?_ | refine ws_storeK ?_ | refine ws_forK ?_ | refine wp_oN ?_ | refine wp_oS ?_ | refine isI_ok ?_ | refine wp_sl ?_ | refine wp_mt ?_ | refine wp_mt0 ?_ | refine wp_src ?_ | refine wp_items ?_ | refine wp_itemsA ?_ | refine wp_enum ?_ | refine wp_zip ?_ | refine wp_yes ?_ | refine wp_kget ?_ | refine wp_enumL ?_ | refine wp_itemL ?_ | refine wp_itemT ?_)) | ((with_reducible apply wp_V); rfl) | ((with_reducible apply ws_aug); rfl) | ((with_reducible apply wp_isi); rfl) | ((with_reducible apply wp_O); rfl) | ((with_reducible apply wp_d); rfl) | ((with_reducible apply wp_l); rfl) | ((with_reducible apply wp_o); rfl) | ((with_reducible apply wp_f); rfl)  | (focus ((with_reducible refine wp_eqS ?_ ?_ ?_); rotate_left; contradiction; contradiction)) | (focus ((with_reducible refine wp_neS ?_ ?_ ?_); rotate_left; contradiction; contradiction)) | (focus ((with_reducible refine wp_mod ?_ ?_); rotate_left; contradiction)) | (focus ((with_reducible refine wp_fdiv ?_ ?_ ?_); rotate_left; contradiction; contradiction)) | (focus ((with_reducible refine wp_mul ?_ ?_); rotate_left; contradiction)) | (focus ((with_reducible refine wp_powI ?_ ?_); rotate_left; contradiction)) | (focus ((with_reducible refine wp_addL ?_ ?_); rotate_left; contradiction)) | (focus ((with_reducible refine wp_addT ?_ ?_); rotate_left; contradiction)) | (focus ((with_reducible refine wp_range1 ?_ ?_); rotate_left; contradiction)) | ((with_reducible apply isDs_ok); rfl; exact Nat.le_of_ble_eq_true rfl) | ((with_reducible apply isAt_ok); rfl) | ((with_reducible apply isMt_ok); rfl) | (focus ((with_reducible apply wp_app); rfl; rotate_left; first | contradiction | rotate_left)) | (focus ((with_reducible apply wp_extT); rfl; rotate_left; first | contradiction | rotate_left)) | (focus ((with_reducible apply wp_extA); rfl; rfl; rotate_left; first | contradiction | rotate_left)) | refine wp_ok ?_))
local macro_rules
  | `(tactic| simp_arith) => `(tactic| repeat infer_instance)
local macro_rules
  | `(tactic| simp_all_arith) => `(tactic| repeat (first | (fail_if_success (with_reducible refine ws_if ?_)); infer_instance))
local macro_rules
  | `(tactic| simp_arith [$a0:term]) => `(tactic| repeat (first | (with_reducible (first | refine wp_C ?_ | refine wp_m2 ?_ | refine wp_m1 ?_ | refine wp_B ?_ | refine isB_ok ?_ | refine if_tt ?_ | refine if_ff ?_ | refine isV_v ?_ | refine isO_o ?_ | refine ws_seq ?_ | refine ws_nil ?_ | refine wp_nil ?_ | refine wp_cons ?_ | refine wp_call ?_ | refine wp_callF ?_ | refine ws_if ?_ | refine ws_ret ?_ | refine ws_set ?_ | refine toSl_d ?_ | refine wp_tup ?_ | refine wp_lst ?_ | refine wp_frz ?_ | refine isFr_l ?_ | refine isFr_k ?_ | refine wp_and ?_ | refine wp_or ?_ | refine wp_not ?_ | refine wp_andV ?_ | refine wp_orV ?_ | refine wp_notV ?_ | refine wp_if ?_ | refine wp_eqI ?_ | refine wp_neI ?_ | refine wp_neB ?_ | refine wp_eqB ?_ | refine wp_addI ?_ | refine wp_subI ?_ | refine wp_ltI ?_ | refine wp_leI ?_ | refine wp_gtI ?_ | refine wp_geI ?_ | refine wp_int ?_ | refine wp_opI ?_ | refine wp_neg ?_ | refine wp_chain ?_ | refine ws_expr ?_ | refine ws_retF ?_ | refine ws_own ?_ | refine ws_loc ?_ | refine ws_frz ?_ | refine ws_unp ?_ | refine ws_FF ?_ | refine ws_FV ?_ | refine ws_VF ?_ | refine ws_par ?_ | refine ws_store ?_ | refine ws_augS ?_ | refine ws_storeK ?_ | refine ws_forK ?_ | refine wp_oN ?_ | refine wp_oS ?_ | refine isI_ok ?_ | refine wp_sl ?_ | refine wp_mt ?_ | refine wp_mt0 ?_ | refine wp_src ?_ | refine wp_items ?_ | refine wp_itemsA ?_ | refine wp_enum ?_ | refine wp_zip ?_ | refine wp_yes ?_ | refine wp_kget ?_ | refine wp_enumL ?_ | refine wp_itemL ?_ | refine wp_itemT ?_)) | ((with_reducible apply wp_is0 $a0); rfl) | infer_instance))
local macro_rules
  | `(tactic| simp_arith [$a0:term, $a1:term]) => `(tactic| repeat (first | (with_reducible (first | refine wp_C ?_ | refine wp_m2 ?_ | refine wp_m1 ?_ | refine wp_B ?_ | refine isB_ok ?_ | refine if_tt ?_ | refine if_ff ?_ | refine isV_v ?_ | refine isO_o ?_ | refine ws_seq ?_ | refine ws_nil ?_ | refine wp_nil ?_ | refine wp_cons ?_ | refine wp_call ?_ | refine wp_callF ?_ | refine ws_if ?_ | refine ws_ret ?_ | refine ws_set ?_ | refine toSl_d ?_ | refine wp_tup ?_ | refine wp_lst ?_ | refine wp_frz ?_ | refine isFr_l ?_ | refine isFr_k ?_ | refine wp_and ?_ | refine wp_or ?_ | refine wp_not ?_ | refine wp_andV ?_ | refine wp_orV ?_ | refine wp_notV ?_ | refine wp_if ?_ | refine wp_eqI ?_ | refine wp_neI ?_ | refine wp_neB ?_ | refine wp_eqB ?_ | refine wp_addI ?_ | refine wp_subI ?_ | refine wp_ltI ?_ | refine wp_leI ?_ | refine wp_gtI ?_ | refine wp_geI ?_ | refine wp_int ?_ | refine wp_opI ?_ | refine wp_neg ?_ | refine wp_chain ?_ | refine ws_expr ?_ | refine ws_retF ?_ | refine ws_own ?_ | refine ws_loc ?_ | refine ws_frz ?_ | refine ws_unp ?_ | refine ws_FF ?_ | refine ws_FV ?_ | refine ws_VF ?_ | refine ws_par ?_ | refine ws_store ?_ | refine ws_augS ?_ | refine ws_storeK ?_ | refine ws_forK ?_ | refine wp_oN ?_ | refine wp_oS ?_ | refine isI_ok ?_ | refine wp_sl ?_ | refine wp_mt ?_ | refine wp_mt0 ?_ | refine wp_src ?_ | refine wp_items ?_ | refine wp_itemsA ?_ | refine wp_enum ?_ | refine wp_zip ?_ | refine wp_yes ?_ | refine wp_kget ?_ | refine wp_enumL ?_ | refine wp_itemL ?_ | refine wp_itemT ?_)) | ((with_reducible apply wp_is0 $a0); rfl) | ((with_reducible apply wp_is0 $a1); rfl) | infer_instance))
local macro_rules
  | `(tactic| simp_arith [$a0:term, $a1:term, $a2:term]) => `(tactic| repeat (first | (with_reducible (first | refine wp_C ?_ | refine wp_m2 ?_ | refine wp_m1 ?_ | refine wp_B ?_ | refine isB_ok ?_ | refine if_tt ?_ | refine if_ff ?_ | refine isV_v ?_ | refine isO_o ?_ | refine ws_seq ?_ | refine ws_nil ?_ | refine wp_nil ?_ | refine wp_cons ?_ | refine wp_call ?_ | refine wp_callF ?_ | refine ws_if ?_ | refine ws_ret ?_ | refine ws_set ?_ | refine toSl_d ?_ | refine wp_tup ?_ | refine wp_lst ?_ | refine wp_frz ?_ | refine isFr_l ?_ | refine isFr_k ?_ | refine wp_and ?_ | refine wp_or ?_ | refine wp_not ?_ | refine wp_andV ?_ | refine wp_orV ?_ | refine wp_notV ?_ | refine wp_if ?_ | refine wp_eqI ?_ | refine wp_neI ?_ | refine wp_neB ?_ | refine wp_eqB ?_ | refine wp_addI ?_ | refine wp_subI ?_ | refine wp_ltI ?_ | refine wp_leI ?_ | refine wp_gtI ?_ | refine wp_geI ?_ | refine wp_int ?_ | refine wp_opI ?_ | refine wp_neg ?_ | refine wp_chain ?_ | refine ws_expr ?_ | refine ws_retF ?_ | refine ws_own ?_ | refine ws_loc ?_ | refine ws_frz ?_ | refine ws_unp ?_ | refine ws_FF ?_ | refine ws_FV ?_ | refine ws_VF ?_ | refine ws_par ?_ | refine ws_store ?_ | refine ws_augS ?_ | refine ws_storeK ?_ | refine ws_forK ?_ | refine wp_oN ?_ | refine wp_oS ?_ | refine isI_ok ?_ | refine wp_sl ?_ | refine wp_mt ?_ | refine wp_mt0 ?_ | refine wp_src ?_ | refine wp_items ?_ | refine wp_itemsA ?_ | refine wp_enum ?_ | refine wp_zip ?_ | refine wp_yes ?_ | refine wp_kget ?_ | refine wp_enumL ?_ | refine wp_itemL ?_ | refine wp_itemT ?_)) | ((with_reducible apply wp_is0 $a0); rfl) | ((with_reducible apply wp_is0 $a1); rfl) | ((with_reducible apply wp_is0 $a2); rfl) | infer_instance))
local macro_rules
  | `(tactic| simp_arith [$a0:term, $a1:term, $a2:term, $a3:term]) => `(tactic| repeat (first | (with_reducible (first | refine wp_C ?_ | refine wp_m2 ?_ | refine wp_m1 ?_ | refine wp_B ?_ | refine isB_ok ?_ | refine if_tt ?_ | refine if_ff ?_ | refine isV_v ?_ | refine isO_o ?_ | refine ws_seq ?_ | refine ws_nil ?_ | refine wp_nil ?_ | refine wp_cons ?_ | refine wp_call ?_ | refine wp_callF ?_ | refine ws_if ?_ | refine ws_ret ?_ | refine ws_set ?_ | refine toSl_d ?_ | refine wp_tup ?_ | refine wp_lst ?_ | refine wp_frz ?_ | refine isFr_l ?_ | refine isFr_k ?_ | refine wp_and ?_ | refine wp_or ?_ | refine wp_not ?_ | refine wp_andV ?_ | refine wp_orV ?_ | refine wp_notV ?_ | refine wp_if ?_ | refine wp_eqI ?_ | refine wp_neI ?_ | refine wp_neB ?_ | refine wp_eqB ?_ | refine wp_addI ?_ | refine wp_subI ?_ | refine wp_ltI ?_ | refine wp_leI ?_ | refine wp_gtI ?_ | refine wp_geI ?_ | refine wp_int ?_ | refine wp_opI ?_ | refine wp_neg ?_ | refine wp_chain ?_ | refine ws_expr ?_ | refine ws_retF ?_ | refine ws_own ?_ | refine ws_loc ?_ | refine ws_frz ?_ | refine ws_unp ?_ | refine ws_FF ?_ | refine ws_FV ?_ | refine ws_VF ?_ | refine ws_par ?_ | refine ws_store ?_ | refine ws_augS ?_ | refine ws_storeK ?_ | refine ws_forK ?_ | refine wp_oN ?_ | refine wp_oS ?_ | refine isI_ok ?_ | refine wp_sl ?_ | refine wp_mt ?_ | refine wp_mt0 ?_ | refine wp_src ?_ | refine wp_items ?_ | refine wp_itemsA ?_ | refine wp_enum ?_ | refine wp_zip ?_ | refine wp_yes ?_ | refine wp_kget ?_ | refine wp_enumL ?_ | refine wp_itemL ?_ | refine wp_itemT ?_)) | ((with_reducible apply wp_is0 $a0); rfl) | ((with_reducible apply wp_is0 $a1); rfl) | ((with_reducible apply wp_is0 $a2); rfl) | ((with_reducible apply wp_is0 $a3); rfl) | infer_instance))
local macro_rules
  | `(tactic| simp_arith [$a0:term, $a1:term, $a2:term, $a3:term, $a4:term]) => `(tactic| repeat (first | (with_reducible (first | refine wp_C ?_ | refine wp_m2 ?_ | refine wp_m1 ?_ | refine wp_B ?_ | refine isB_ok ?_ | refine if_tt ?_ | refine if_ff ?_ | refine isV_v ?_ | refine isO_o ?_ | refine ws_seq ?_ | refine ws_nil ?_ | refine wp_nil ?_ | refine wp_cons ?_ | refine wp_call ?_ | refine wp_callF ?_ | refine ws_if ?_ | refine ws_ret ?_ | refine ws_set ?_ | refine toSl_d ?_ | refine wp_tup ?_ | refine wp_lst ?_ | refine wp_frz ?_ | refine isFr_l ?_ | refine isFr_k ?_ | refine wp_and ?_ | refine wp_or ?_ | refine wp_not ?_ | refine wp_andV ?_ | refine wp_orV ?_ | refine wp_notV ?_ | refine wp_if ?_ | refine wp_eqI ?_ | refine wp_neI ?_ | refine wp_neB ?_ | refine wp_eqB ?_ | refine wp_addI ?_ | refine wp_subI ?_ | refine wp_ltI ?_ | refine wp_leI ?_ | refine wp_gtI ?_ | refine wp_geI ?_ | refine wp_int ?_ | refine wp_opI ?_ | refine wp_neg ?_ | refine wp_chain ?_ | refine ws_expr ?_ | refine ws_retF ?_ | refine ws_own ?_ | refine ws_loc ?_ | refine ws_frz ?_ | refine ws_unp ?_ | refine ws_FF ?_ | refine ws_FV ?_ | refine ws_VF ?_ | refine ws_par ?_ | refine ws_store ?_ | refine ws_augS ?_ | refine ws_storeK ?_ | refine ws_forK ?_ | refine wp_oN ?_ | refine wp_oS ?_ | refine isI_ok ?_ | refine wp_sl ?_ | refine wp_mt ?_ | refine wp_mt0 ?_ | refine wp_src ?_ | refine wp_items ?_ | refine wp_itemsA ?_ | refine wp_enum ?_ | refine wp_zip ?_ | refine wp_yes ?_ | refine wp_kget ?_ | refine wp_enumL ?_ | refine wp_itemL ?_ | refine wp_itemT ?_)) | ((with_reducible apply wp_is0 $a0); rfl) | ((with_reducible apply wp_is0 $a1); rfl) | ((with_reducible apply wp_is0 $a2); rfl) | ((with_reducible apply wp_is0 $a3); rfl) | ((with_reducible apply wp_is0 $a4); rfl) | infer_instance))
local macro_rules
  | `(tactic| simp_arith [$a0:term, $a1:term, $a2:term, $a3:term, $a4:term, $a5:term]) => `(tactic| repeat (first | (with_reducible (first | refine wp_C ?_ | refine wp_m2 ?_ | refine wp_m1 ?_ | refine wp_B ?_ | refine isB_ok ?_ | refine if_tt ?_ | refine if_ff ?_ | refine isV_v ?_ | refine isO_o ?_ | refine ws_seq ?_ | refine ws_nil ?_ | refine wp_nil ?_ | refine wp_cons ?_ | refine wp_call ?_ | refine wp_callF ?_ | refine ws_if ?_ | refine ws_ret ?_ | refine ws_set ?_ | refine toSl_d ?_ | refine wp_tup ?_ | refine wp_lst ?_ | refine wp_frz ?_ | refine isFr_l ?_ | refine isFr_k ?_ | refine wp_and ?_ | refine wp_or ?_ | refine wp_not ?_ | refine wp_andV ?_ | refine wp_orV ?_ | refine wp_notV ?_ | refine wp_if ?_ | refine wp_eqI ?_ | refine wp_neI ?_ | refine wp_neB ?_ | refine wp_eqB ?_ | refine wp_addI ?_ | refine wp_subI ?_ | refine wp_ltI ?_ | refine wp_leI ?_ | refine wp_gtI ?_ | refine wp_geI ?_ | refine wp_int ?_ | refine wp_opI ?_ | refine wp_neg ?_ | refine wp_chain ?_ | refine ws_expr ?_ | refine ws_retF ?_ | refine ws_own ?_ | refine ws_loc ?_ | refine ws_frz ?_ | refine ws_unp ?_ | refine ws_FF ?_ | refine ws_FV ?_ | refine ws_VF ?_ | refine ws_par ?_ | refine ws_store ?_ | refine ws_augS ?_ | refine ws_storeK ?_ | refine ws_forK ?_ | refine wp_oN ?_ | refine wp_oS ?_ | refine isI_ok ?_ | refine wp_sl ?_ | refine wp_mt ?_ | refine wp_mt0 ?_ | refine wp_src ?_ | refine wp_items ?_ | refine wp_itemsA ?_ | refine wp_enum ?_ | refine wp_zip ?_ | refine wp_yes ?_ | refine wp_kget ?_ | refine wp_enumL ?_ | refine wp_itemL ?_ | refine wp_itemT ?_)) | ((with_reducible apply wp_is0 $a0); rfl) | ((with_reducible apply wp_is0 $a1); rfl) | ((with_reducible apply wp_is0 $a2); rfl) | ((with_reducible apply wp_is0 $a3); rfl) | ((with_reducible apply wp_is0 $a4); rfl) | ((with_reducible apply wp_is0 $a5); rfl) | infer_instance))
local macro_rules
  | `(tactic| simp_arith [$a0:term, $a1:term, $a2:term, $a3:term, $a4:term, $a5:term, $a6:term]) => `(tactic| repeat (first | (with_reducible (first | refine wp_C ?_ | refine wp_m2 ?_ | refine wp_m1 ?_ | refine wp_B ?_ | refine isB_ok ?_ | refine if_tt ?_ | refine if_ff ?_ | refine isV_v ?_ | refine isO_o ?_ | refine ws_seq ?_ | refine ws_nil ?_ | refine wp_nil ?_ | refine wp_cons ?_ | refine wp_call ?_ | refine wp_callF ?_ | refine ws_if ?_ | refine ws_ret ?_ | refine ws_set ?_ | refine toSl_d ?_ | refine wp_tup ?_ | refine wp_lst ?_ | refine wp_frz ?_ | refine isFr_l ?_ | refine isFr_k ?_ | refine wp_and ?_ | refine wp_or ?_ | refine wp_not ?_ | refine wp_andV ?_ | refine wp_orV ?_ | refine wp_notV ?_ | refine wp_if ?_ | refine wp_eqI ?_ | refine wp_neI ?_ | refine wp_neB ?_ | refine wp_eqB ?_ | refine wp_addI ?_ | refine wp_subI ?_ | refine wp_ltI ?_ | refine wp_leI ?_ | refine wp_gtI ?_ | refine wp_geI ?_ | refine wp_int ?_ | refine wp_opI ?_ | refine wp_neg ?_ | refine wp_chain ?_ | refine ws_expr ?_ | refine ws_retF ?_ | refine ws_own ?_ | refine ws_loc ?_ | refine ws_frz ?_ | refine ws_unp ?_ | refine ws_FF ?_ | refine ws_FV ?_ | refine ws_VF ?_ | refine ws_par ?_ | refine ws_store ?_ | refine ws_augS ?_ | refine ws_storeK ?_ | refine ws_forK ?_ | refine wp_oN ?_ | refine wp_oS ?_ | refine isI_ok ?_ | refine wp_sl ?_ | refine wp_mt ?_ | refine wp_mt0 ?_ | refine wp_src ?_ | refine wp_items ?_ | refine wp_itemsA ?_ | refine wp_enum ?_ | refine wp_zip ?_ | refine wp_yes ?_ | refine wp_kget ?_ | refine wp_enumL ?_ | refine wp_itemL ?_ | refine wp_itemT ?_)) | ((with_reducible apply wp_is0 $a0); rfl) | ((with_reducible apply wp_is0 $a1); rfl) | ((with_reducible apply wp_is0 $a2); rfl) | ((with_reducible apply wp_is0 $a3); rfl) | ((with_reducible apply wp_is0 $a4); rfl) | ((with_reducible apply wp_is0 $a5); rfl) | ((with_reducible apply wp_is0 $a6); rfl) | infer_instance))
local macro_rules
  | `(tactic| simp_arith [$a0:term, $a1:term, $a2:term, $a3:term, $a4:term, $a5:term, $a6:term, $a7:term]) => `(tactic| repeat (first | (with_reducible (first | refine wp_C ?_ | refine wp_m2 ?_ | refine wp_m1 ?_ | refine wp_B ?_ | refine isB_ok ?_ | refine if_tt ?_ | refine if_ff ?_ | refine isV_v ?_ | refine isO_o ?_ | refine ws_seq ?_ | refine ws_nil ?_ | refine wp_nil ?_ | refine wp_cons ?_ | refine wp_call ?_ | refine wp_callF ?_ | refine ws_if ?_ | refine ws_ret ?_ | refine ws_set ?_ | refine toSl_d ?_ | refine wp_tup ?_ | refine wp_lst ?_ | refine wp_frz ?_ | refine isFr_l ?_ | refine isFr_k ?_ | refine wp_and ?_ | refine wp_or ?_ | refine wp_not ?_ | refine wp_andV ?_ | refine wp_orV ?_ | refine wp_notV ?_ | refine wp_if ?_ | refine wp_eqI ?_ | refine wp_neI ?_ | refine wp_neB ?_ | refine wp_eqB ?_ | refine wp_addI ?_ | refine wp_subI ?_ | refine wp_ltI ?_ | refine wp_leI ?_ | refine wp_gtI ?_ | refine wp_geI ?_ | refine wp_int ?_ | refine wp_opI ?_ | refine wp_neg ?_ | refine wp_chain ?_ | refine ws_expr ?_ | refine ws_retF ?_ | refine ws_own ?_ | refine ws_loc ?_ | refine ws_frz ?_ | refine ws_unp ?_ | refine ws_FF ?_ | refine ws_FV ?_ | refine ws_VF ?_ | refine ws_par ?_ | refine ws_store ?_ | refine ws_augS ?_ | refine ws_storeK ?_ | refine ws_forK ?_ | refine wp_oN ?_ | refine wp_oS ?_ | refine isI_ok ?_ | refine wp_sl ?_ | refine wp_mt ?_ | refine wp_mt0 ?_ | refine wp_src ?_ | refine wp_items ?_ | refine wp_itemsA ?_ | refine wp_enum ?_ | refine wp_zip ?_ | refine wp_yes ?_ | refine wp_kget ?_ | refine wp_enumL ?_ | refine wp_itemL ?_ | refine wp_itemT ?_)) | ((with_reducible apply wp_is0 $a0); rfl) | ((with_reducible apply wp_is0 $a1); rfl) | ((with_reducible apply wp_is0 $a2); rfl) | ((with_reducible apply wp_is0 $a3); rfl) | ((with_reducible apply wp_is0 $a4); rfl) | ((with_reducible apply wp_is0 $a5); rfl) | ((with_reducible apply wp_is0 $a6); rfl) | ((with_reducible apply wp_is0 $a7); rfl) | infer_instance))
local macro_rules
  | `(tactic| array_get_dec) => `(tactic| (first | (with_reducible (first | apply pv_C | apply pv_kt | apply pl_nil | apply tb_yes | apply pi_N | apply po_dnew | apply pv_m2 | apply pv_m1 | apply pl_cons | apply pv_call | apply po_callF | apply pv_frzL | apply tb_B | apply tb_not | apply pv_notV | apply pi_S | apply pv_sl | apply pj_itemsA | apply pj_items | apply pj_enum | apply pj_src | apply pj_zip | apply pv_tup | apply po_lst | apply a_eqI | apply a_neI | apply a_eqB | apply a_neB | apply a_addI | apply a_subI | apply a_leI | apply a_ltI | apply a_gtI | apply a_geI | apply a_ltS | apply a_lenL | apply a_lenT | apply a_tuple | apply a_tupT | apply a_listL | apply a_listT | apply a_intB | apply a_intI | apply a_slL | apply a_slT | apply a_isN | apply a_notN | apply aj_lst | apply aj_tup | apply aj_kt | apply aj_frz | apply aj_enumL | apply a_all | apply a_any | apply tb_and | apply tb_or | apply pv_andV | apply pv_orV | apply pv_chain | apply pv_ifD)) | ((with_reducible apply pv_d); rfl) | ((with_reducible apply pv_o); rfl) | ((with_reducible apply pv_f); rfl) | ((with_reducible apply pv_l); rfl) | ((with_reducible apply a_isi); first | rfl | assumption) | (focus ((with_reducible apply a_eqS); contradiction; contradiction)) | (focus ((with_reducible apply a_neS); contradiction; contradiction)) | (focus ((with_reducible apply a_addL); contradiction)) | (focus ((with_reducible apply a_addT); contradiction)) | (focus ((with_reducible apply a_lenS); contradiction)) | (focus ((with_reducible apply aj_str); contradiction)) | (focus ((with_reducible apply aj_range1); contradiction)) | (focus ((with_reducible apply aj_zipT); contradiction)) | (focus ((with_reducible apply aj_zipL); contradiction))))
local macro_rules
  | `(tactic| simp_arith!) => `(tactic| repeat (first | array_get_dec | exact tb_absF rfl | exact tb_absT rfl | exact pv_absF rfl | exact pv_absT rfl | exact a2_absT rfl | intro _ | exact (false : Bool) | ((with_reducible apply a_ix); rfl) | ((with_reducible apply a_ixL); rfl) | (exact Nat.le_of_ble_eq_true rfl) | exact rfl))
local macro_rules
  | `(tactic| simp_arith! [$a0:term]) => `(tactic| repeat (first | array_get_dec | ((with_reducible apply a_is0 $a0); rfl) | ((with_reducible apply a2_id); exact $a0) | ((with_reducible apply ao_id); exact $a0) | (with_reducible exact $a0) | exact tb_absF rfl | exact tb_absT rfl | exact pv_absF rfl | exact pv_absT rfl | exact a2_absT rfl | intro _ | exact (false : Bool) | ((with_reducible apply a_ix); rfl) | ((with_reducible apply a_ixL); rfl) | (exact Nat.le_of_ble_eq_true rfl) | exact rfl))
local macro_rules
  | `(tactic| simp_arith! [$a0:term, $a1:term]) => `(tactic| repeat (first | array_get_dec | ((with_reducible apply a_is0 $a0); rfl) | ((with_reducible apply a2_id); exact $a0) | ((with_reducible apply ao_id); exact $a0) | (with_reducible exact $a0) | ((with_reducible apply a_is0 $a1); rfl) | ((with_reducible apply a2_id); exact $a1) | ((with_reducible apply ao_id); exact $a1) | (with_reducible exact $a1) | exact tb_absF rfl | exact tb_absT rfl | exact pv_absF rfl | exact pv_absT rfl | exact a2_absT rfl | intro _ | exact (false : Bool) | ((with_reducible apply a_ix); rfl) | ((with_reducible apply a_ixL); rfl) | (exact Nat.le_of_ble_eq_true rfl) | exact rfl))
local macro_rules
  | `(tactic| simp_arith! [$a0:term, $a1:term, $a2:term]) => `(tactic| repeat (first | array_get_dec | ((with_reducible apply a_is0 $a0); rfl) | ((with_reducible apply a2_id); exact $a0) | ((with_reducible apply ao_id); exact $a0) | (with_reducible exact $a0) | ((with_reducible apply a_is0 $a1); rfl) | ((with_reducible apply a2_id); exact $a1) | ((with_reducible apply ao_id); exact $a1) | (with_reducible exact $a1) | ((with_reducible apply a_is0 $a2); rfl) | ((with_reducible apply a2_id); exact $a2) | ((with_reducible apply ao_id); exact $a2) | (with_reducible exact $a2) | exact tb_absF rfl | exact tb_absT rfl | exact pv_absF rfl | exact pv_absT rfl | exact a2_absT rfl | intro _ | exact (false : Bool) | ((with_reducible apply a_ix); rfl) | ((with_reducible apply a_ixL); rfl) | (exact Nat.le_of_ble_eq_true rfl) | exact rfl))
local macro_rules
  | `(tactic| simp_arith! [$a0:term, $a1:term, $a2:term, $a3:term]) => `(tactic| repeat (first | array_get_dec | ((with_reducible apply a_is0 $a0); rfl) | ((with_reducible apply a2_id); exact $a0) | ((with_reducible apply ao_id); exact $a0) | (with_reducible exact $a0) | ((with_reducible apply a_is0 $a1); rfl) | ((with_reducible apply a2_id); exact $a1) | ((with_reducible apply ao_id); exact $a1) | (with_reducible exact $a1) | ((with_reducible apply a_is0 $a2); rfl) | ((with_reducible apply a2_id); exact $a2) | ((with_reducible apply ao_id); exact $a2) | (with_reducible exact $a2) | ((with_reducible apply a_is0 $a3); rfl) | ((with_reducible apply a2_id); exact $a3) | ((with_reducible apply ao_id); exact $a3) | (with_reducible exact $a3) | exact tb_absF rfl | exact tb_absT rfl | exact pv_absF rfl | exact pv_absT rfl | exact a2_absT rfl | intro _ | exact (false : Bool) | ((with_reducible apply a_ix); rfl) | ((with_reducible apply a_ixL); rfl) | (exact Nat.le_of_ble_eq_true rfl) | exact rfl))
local macro_rules
  | `(tactic| simp_arith! [$a0:term, $a1:term, $a2:term, $a3:term, $a4:term]) => `(tactic| repeat (first | array_get_dec | ((with_reducible apply a_is0 $a0); rfl) | ((with_reducible apply a2_id); exact $a0) | ((with_reducible apply ao_id); exact $a0) | (with_reducible exact $a0) | ((with_reducible apply a_is0 $a1); rfl) | ((with_reducible apply a2_id); exact $a1) | ((with_reducible apply ao_id); exact $a1) | (with_reducible exact $a1) | ((with_reducible apply a_is0 $a2); rfl) | ((with_reducible apply a2_id); exact $a2) | ((with_reducible apply ao_id); exact $a2) | (with_reducible exact $a2) | ((with_reducible apply a_is0 $a3); rfl) | ((with_reducible apply a2_id); exact $a3) | ((with_reducible apply ao_id); exact $a3) | (with_reducible exact $a3) | ((with_reducible apply a_is0 $a4); rfl) | ((with_reducible apply a2_id); exact $a4) | ((with_reducible apply ao_id); exact $a4) | (with_reducible exact $a4) | exact tb_absF rfl | exact tb_absT rfl | exact pv_absF rfl | exact pv_absT rfl | exact a2_absT rfl | intro _ | exact (false : Bool) | ((with_reducible apply a_ix); rfl) | ((with_reducible apply a_ixL); rfl) | (exact Nat.le_of_ble_eq_true rfl) | exact rfl))
local macro_rules
  | `(tactic| simp_arith! [$a0:term, $a1:term, $a2:term, $a3:term, $a4:term, $a5:term]) => `(tactic| repeat (first | array_get_dec | ((with_reducible apply a_is0 $a0); rfl) | ((with_reducible apply a2_id); exact $a0) | ((with_reducible apply ao_id); exact $a0) | (with_reducible exact $a0) | ((with_reducible apply a_is0 $a1); rfl) | ((with_reducible apply a2_id); exact $a1) | ((with_reducible apply ao_id); exact $a1) | (with_reducible exact $a1) | ((with_reducible apply a_is0 $a2); rfl) | ((with_reducible apply a2_id); exact $a2) | ((with_reducible apply ao_id); exact $a2) | (with_reducible exact $a2) | ((with_reducible apply a_is0 $a3); rfl) | ((with_reducible apply a2_id); exact $a3) | ((with_reducible apply ao_id); exact $a3) | (with_reducible exact $a3) | ((with_reducible apply a_is0 $a4); rfl) | ((with_reducible apply a2_id); exact $a4) | ((with_reducible apply ao_id); exact $a4) | (with_reducible exact $a4) | ((with_reducible apply a_is0 $a5); rfl) | ((with_reducible apply a2_id); exact $a5) | ((with_reducible apply ao_id); exact $a5) | (with_reducible exact $a5) | exact tb_absF rfl | exact tb_absT rfl | exact pv_absF rfl | exact pv_absT rfl | exact a2_absT rfl | intro _ | exact (false : Bool) | ((with_reducible apply a_ix); rfl) | ((with_reducible apply a_ixL); rfl) | (exact Nat.le_of_ble_eq_true rfl) | exact rfl))
local macro_rules
  | `(tactic| simp_arith! [$a0:term, $a1:term, $a2:term, $a3:term, $a4:term, $a5:term, $a6:term]) => `(tactic| repeat (first | array_get_dec | ((with_reducible apply a_is0 $a0); rfl) | ((with_reducible apply a2_id); exact $a0) | ((with_reducible apply ao_id); exact $a0) | (with_reducible exact $a0) | ((with_reducible apply a_is0 $a1); rfl) | ((with_reducible apply a2_id); exact $a1) | ((with_reducible apply ao_id); exact $a1) | (with_reducible exact $a1) | ((with_reducible apply a_is0 $a2); rfl) | ((with_reducible apply a2_id); exact $a2) | ((with_reducible apply ao_id); exact $a2) | (with_reducible exact $a2) | ((with_reducible apply a_is0 $a3); rfl) | ((with_reducible apply a2_id); exact $a3) | ((with_reducible apply ao_id); exact $a3) | (with_reducible exact $a3) | ((with_reducible apply a_is0 $a4); rfl) | ((with_reducible apply a2_id); exact $a4) | ((with_reducible apply ao_id); exact $a4) | (with_reducible exact $a4) | ((with_reducible apply a_is0 $a5); rfl) | ((with_reducible apply a2_id); exact $a5) | ((with_reducible apply ao_id); exact $a5) | (with_reducible exact $a5) | ((with_reducible apply a_is0 $a6); rfl) | ((with_reducible apply a2_id); exact $a6) | ((with_reducible apply ao_id); exact $a6) | (with_reducible exact $a6) | exact tb_absF rfl | exact tb_absT rfl | exact pv_absF rfl | exact pv_absT rfl | exact a2_absT rfl | intro _ | exact (false : Bool) | ((with_reducible apply a_ix); rfl) | ((with_reducible apply a_ixL); rfl) | (exact Nat.le_of_ble_eq_true rfl) | exact rfl))
local macro_rules
  | `(tactic| simp_arith! [$a0:term, $a1:term, $a2:term, $a3:term, $a4:term, $a5:term, $a6:term, $a7:term]) => `(tactic| repeat (first | array_get_dec | ((with_reducible apply a_is0 $a0); rfl) | ((with_reducible apply a2_id); exact $a0) | ((with_reducible apply ao_id); exact $a0) | (with_reducible exact $a0) | ((with_reducible apply a_is0 $a1); rfl) | ((with_reducible apply a2_id); exact $a1) | ((with_reducible apply ao_id); exact $a1) | (with_reducible exact $a1) | ((with_reducible apply a_is0 $a2); rfl) | ((with_reducible apply a2_id); exact $a2) | ((with_reducible apply ao_id); exact $a2) | (with_reducible exact $a2) | ((with_reducible apply a_is0 $a3); rfl) | ((with_reducible apply a2_id); exact $a3) | ((with_reducible apply ao_id); exact $a3) | (with_reducible exact $a3) | ((with_reducible apply a_is0 $a4); rfl) | ((with_reducible apply a2_id); exact $a4) | ((with_reducible apply ao_id); exact $a4) | (with_reducible exact $a4) | ((with_reducible apply a_is0 $a5); rfl) | ((with_reducible apply a2_id); exact $a5) | ((with_reducible apply ao_id); exact $a5) | (with_reducible exact $a5) | ((with_reducible apply a_is0 $a6); rfl) | ((with_reducible apply a2_id); exact $a6) | ((with_reducible apply ao_id); exact $a6) | (with_reducible exact $a6) | ((with_reducible apply a_is0 $a7); rfl) | ((with_reducible apply a2_id); exact $a7) | ((with_reducible apply ao_id); exact $a7) | (with_reducible exact $a7) | exact tb_absF rfl | exact tb_absT rfl | exact pv_absF rfl | exact pv_absT rfl | exact a2_absT rfl | intro _ | exact (false : Bool) | ((with_reducible apply a_ix); rfl) | ((with_reducible apply a_ixL); rfl) | (exact Nat.le_of_ble_eq_true rfl) | exact rfl))
theorem is_integer_is {d : D} (h : noT d = true) : Is F_is_integer [.d d] (.bool (isInt d)) := by
  unfold F_is_integer
  refine is_fun fun sto => ?_
  apply ws_retP
  · simp_arith!
  exact ⟨rfl, rfl⟩
theorem l_is_int_is {d : D} (h : noT d = true) : Is F_l_is_int [.d d] (.bool (isInt d)) := by
  unfold F_l_is_int
  refine is_fun fun sto => ?_
  apply ws_retP
  · simp_arith!
  exact ⟨rfl, rfl⟩
theorem is_name_is {d : D} (h : Pl d) : Is F_is_name [.d d] (.bool (isName d)) := by
  unfold F_is_name
  refine is_fun fun sto => ?_
  refine ws_seq ?_
  have hn := pl_noT h
  cases d with
  | str x =>
    obtain ⟨hs, hl⟩ := pl_str h
    apply ws_ifP
    · simp_arith! [mem_kt reservedS]
    all_goals intro h
    · apply ws_retP
      · simp_arith!
      refine ⟨?_, rfl⟩
      revert h
      simp only [isStrD, Bool.not_true, Bool.false_or, isName, isNameS]
      generalize decide (x ∈ reservedS) = b3
      generalize decide (1 ≤ (x.length : Int)) = b1
      generalize decide ((x.length : Int) ≤ 8) = b2
      cases b1 <;> cases b2 <;> cases b3 <;> simp
    · apply ws_retP
      · simp_arith!
        apply po_map (x.cps.toList) (fun c => PyData.str ⟨#[c]⟩)
        · simp_arith! [a_sign]
        · first | rfl | exact (List.map_id _).symm | simp
        · intro a ha; refine ⟨_, rfl, ?_, rfl⟩; simp_arith! [a_sign]
        try any_goals (show S.wipe _ _ = _; rfl)
        simp_arith!
      · refine ⟨?_, rfl⟩
        revert h
        simp only [isStrD, Bool.not_true, Bool.false_or, isName, isNameS, lettersS]
        generalize decide (x ∈ reservedS) = b3
        generalize decide (1 ≤ (x.length : Int)) = b1
        generalize decide ((x.length : Int) ≤ 8) = b2
        cases b1 <;> cases b2 <;> cases b3 <;> simp
  | _ =>
    apply ws_ifP
    · simp_arith!
    all_goals intro h
    · apply ws_retP
      · simp_arith!
      exact ⟨rfl, rfl⟩
    · exact Bool.noConfusion (show true = false from h)
theorem l_is_name_is {d : D} (h : Pl d) : Is F_l_is_name [.d d] (.bool (isName d)) := by
  unfold F_l_is_name
  refine is_fun fun sto => ?_
  refine ws_seq ?_
  have hn := pl_noT h
  apply ws_setP
  · simp_arith!
  refine ws_seq ?_
  cases d with
  | str x =>
    obtain ⟨hs, hl⟩ := pl_str h
    apply ws_ifP
    · simp_arith! [a_in (mem_list reservedS)]
    all_goals intro h
    · apply ws_retP
      · simp_arith!
      refine ⟨?_, rfl⟩
      revert h
      simp only [isStrD, Bool.not_true, Bool.false_or, isName, isNameS]
      generalize decide (x ∈ reservedS) = b3
      generalize decide (1 ≤ (x.length : Int)) = b1
      generalize decide ((x.length : Int) ≤ 8) = b2
      cases b1 <;> cases b2 <;> cases b3 <;> simp
    · apply ws_retP
      · simp_arith!
        apply po_fil (x.cps.toList) (fun c => PyData.str ⟨#[c]⟩)
        · simp_arith! [a_nsign]
        · first | rfl | exact (List.map_id _).symm | simp
        · intro a ha; refine ⟨_, rfl, ?_, ?_, rfl⟩
          · simp_arith! [a_nsign]
          · intro hk; simp_arith! [a_nsign]
        try any_goals (show S.wipe _ _ = _; rfl)
        simp_arith!
        refine a_nilL ?_
        intro d hd
        obtain ⟨c, hc, rfl⟩ := List.mem_map.mp hd
        have hc := (List.mem_filter.mp hc).1
        exact sh_sign hs hc
      · refine ⟨?_, rfl⟩
        revert h
        simp only [isStrD, Bool.not_true, Bool.false_or, isName, isNameS, lettersS]
        rw [fil_all]
        generalize decide (x ∈ reservedS) = b3
        generalize decide (1 ≤ (x.length : Int)) = b1
        generalize decide ((x.length : Int) ≤ 8) = b2
        cases b1 <;> cases b2 <;> cases b3 <;> simp
  | _ =>
    apply ws_ifP
    · simp_arith!
    all_goals intro h
    · apply ws_retP
      · simp_arith!
      exact ⟨rfl, rfl⟩
    · exact Bool.noConfusion (show true = false from h)
theorem is_shallow_is : ∀ (m n : Nat) (d : D), n < m → Pl d → Is (F_is_shallow m) [.d d, .d (.int n)] (.bool (shal n d))
  | 0, n, d, h, _ => by omega
  | m + 1, n, d, hm, hp => by
    show Is (M_is_shallow (F_is_shallow _)) _ _
    unfold M_is_shallow
    refine is_fun fun sto => ?_
    refine ws_seq ?_
    have hn := pl_noT hp
    cases n with
    | zero =>
      apply ws_ifP
      · simp_arith!
      all_goals intro h
      · apply ws_retP
        · simp_arith!
        exact ⟨by rw [shal], rfl⟩
      · exact Bool.noConfusion (show true = false from h)
    | succ n =>
      have hk : decide (((n + 1 : Nat) : Int) = 0) = false := decide_eq_false (by omega)
      have hk2 : ((n + 1 : Nat) : Int) - 1 = (n : Int) := by omega
      cases d with
      | tuple ds =>
        match ds, hp, hn with
        | [.str w, p], hp, hn =>
          obtain ⟨_, hs⟩ := pl_tup hp
          obtain ⟨hw, hwl⟩ := pl_str (hs (.str w) (by simp))
          have hpp : Pl p := hs p (by simp)
          have hpn := pl_noT hpp
          apply ws_ifP
          · simp_arith!
          all_goals intro h
          · exact Bool.noConfusion (show false = true by rw [← h, hk]; rfl)
          · refine ws_nil ?_
            refine ws_seq ?_
            apply ws_ifP
            · simp_arith!
            all_goals intro h2
            · apply ws_retP
              · simp_arith! [is_name_is hpp]
              have h2 : w = giftS := of_decide_eq_true h2
              exact ⟨by rw [shal_n, if_pos h2], rfl⟩
            · have h2 : ¬ w = giftS := of_decide_eq_false h2
              refine ws_nil ?_
              refine ws_seq ?_
              cases p with
              | tuple ps =>
                obtain ⟨hpl, hps⟩ := pl_tup hpp
                have ih : ∀ a ∈ ps, Is (F_is_shallow m) [.d a, .d (.int (((n + 1 : Nat) : Int) - 1))] (.bool (shal n a)) := fun a ha => by rw [hk2]; exact is_shallow_is m n a (by omega) (hps a ha)
                apply ws_ifP
                · simp_arith! [nin_kt joinsS]
                all_goals intro h3
                · apply ws_retP
                  · simp_arith!
                  refine ⟨?_, rfl⟩
                  rw [shal_n, if_neg h2]
                  by_cases hj : w ∈ joinsS
                  · rw [if_pos hj]
                    simp only [isTupD, Bool.not_true, Bool.false_or, hj, decide_true, decide_eq_true_eq] at h3
                    rw [tupAnd_t, decide_eq_false (by omega), Bool.false_and]
                  · rw [if_neg hj]
                · apply ws_retP
                  · simp_arith!
                    apply po_map (ps) (fun p => p)
                    · simp_arith! [ih a ha]
                    · first | rfl | exact (List.map_id _).symm | simp
                    · intro a ha; refine ⟨_, rfl, ?_, rfl⟩; simp_arith! [ih a ha]
                    try any_goals (show S.wipe _ _ = _; rfl)
                    simp_arith!
                  · refine ⟨?_, rfl⟩
                    simp only [isTupD, Bool.not_true, Bool.false_or, Bool.or_eq_false_iff, Bool.not_eq_false', decide_eq_true_eq, decide_eq_false_iff_not] at h3
                    rw [shal_n, if_neg h2, if_pos h3.1, tupAnd_t]
                    rw [decide_eq_true (by omega), Bool.true_and]
              | _ =>
                apply ws_ifP
                · simp_arith! [nin_kt joinsS]
                all_goals intro h3
                · apply ws_retP
                  · simp_arith!
                  refine ⟨?_, rfl⟩
                  rw [shal_n, if_neg h2]
                  by_cases hj : w ∈ joinsS
                  · rw [if_pos hj]; rfl
                  · rw [if_neg hj]
                · exact absurd h3 (by simp [isTupD])
        | [], hp, hn =>
          apply ws_ifP
          · simp_arith!
          all_goals intro h
          · apply ws_retP
            · simp_arith!
            exact ⟨by simp [shal], rfl⟩
          · exact absurd h (by simp [isTupD])
        | [a], hp, hn =>
          apply ws_ifP
          · simp_arith!
          all_goals intro h
          · apply ws_retP
            · simp_arith!
            exact ⟨by rw [shal_1], rfl⟩
          · exact absurd h (by simp [isTupD])
        | a :: b :: c :: r, hp, hn =>
          apply ws_ifP
          · simp_arith!
          all_goals intro h
          · apply ws_retP
            · simp_arith!
            exact ⟨by rw [shal_3], rfl⟩
          · exact absurd h (by simp [isTupD]; omega)
        | [.none, p], hp, hn =>
          obtain ⟨_, hs⟩ := pl_tup hp
          have ha := pl_noT (hs (.none) (by simp))
          apply ws_ifP
          · simp_arith!
          all_goals intro h
          · apply ws_retP
            · simp_arith!
            exact ⟨by simp [shal], rfl⟩
          · exact absurd h (by simp [isTupD, isStrD])
        | [.bool b, p], hp, hn =>
          obtain ⟨_, hs⟩ := pl_tup hp
          have ha := pl_noT (hs (.bool b) (by simp))
          apply ws_ifP
          · simp_arith!
          all_goals intro h
          · apply ws_retP
            · simp_arith!
            exact ⟨by simp [shal], rfl⟩
          · exact absurd h (by simp [isTupD, isStrD])
        | [.int i, p], hp, hn =>
          obtain ⟨_, hs⟩ := pl_tup hp
          have ha := pl_noT (hs (.int i) (by simp))
          apply ws_ifP
          · simp_arith!
          all_goals intro h
          · apply ws_retP
            · simp_arith!
            exact ⟨by simp [shal], rfl⟩
          · exact absurd h (by simp [isTupD, isStrD])
        | [.list l, p], hp, hn =>
          obtain ⟨_, hs⟩ := pl_tup hp
          have ha := pl_noT (hs (.list l) (by simp))
          apply ws_ifP
          · simp_arith!
          all_goals intro h
          · apply ws_retP
            · simp_arith!
            exact ⟨by simp [shal], rfl⟩
          · exact absurd h (by simp [isTupD, isStrD])
        | [.tuple l, p], hp, hn =>
          obtain ⟨_, hs⟩ := pl_tup hp
          have ha := pl_noT (hs (.tuple l) (by simp))
          apply ws_ifP
          · simp_arith!
          all_goals intro h
          · apply ws_retP
            · simp_arith!
            exact ⟨by simp [shal], rfl⟩
          · exact absurd h (by simp [isTupD, isStrD])
        | [.dict l, p], hp, hn =>
          obtain ⟨_, hs⟩ := pl_tup hp
          have ha := pl_noT (hs (.dict l) (by simp))
          apply ws_ifP
          · simp_arith!
          all_goals intro h
          · apply ws_retP
            · simp_arith!
            exact ⟨by simp [shal], rfl⟩
          · exact absurd h (by simp [isTupD, isStrD])
      | _ =>
        apply ws_ifP
        · simp_arith!
        all_goals intro h
        · apply ws_retP
          · simp_arith!
          exact ⟨by simp [shal], rfl⟩
        · exact absurd h (by simp [isTupD])
theorem l_is_formula_is : ∀ (m n : Nat) (d : D), n < m → Pl d → Is (F_l_is_formula m) [.d d, .d (.int n)] (.bool (shal n d))
  | 0, n, d, h, _ => by omega
  | m + 1, n, d, hm, hp => by
    show Is (M_l_is_formula (F_l_is_formula _)) _ _
    unfold M_l_is_formula
    refine is_fun fun sto => ?_
    refine ws_seq ?_
    have hn := pl_noT hp
    cases n with
    | zero =>
      apply ws_ifP
      · simp_arith!
      all_goals intro h
      · apply ws_retP
        · simp_arith!
        exact ⟨by rw [shal], rfl⟩
      · exact Bool.noConfusion (show true = false from h)
    | succ n =>
      have hk : decide (((n + 1 : Nat) : Int) = 0) = false := decide_eq_false (by omega)
      have hk2 : ((n + 1 : Nat) : Int) - 1 = (n : Int) := by omega
      cases d with
      | tuple ds =>
        match ds, hp, hn with
        | [.str w, p], hp, hn =>
          obtain ⟨_, hs⟩ := pl_tup hp
          obtain ⟨hw, hwl⟩ := pl_str (hs (.str w) (by simp))
          have hpp : Pl p := hs p (by simp)
          have hpn := pl_noT hpp
          apply ws_ifP
          · simp_arith!
          all_goals intro h
          · exact Bool.noConfusion (show false = true by rw [← h, hk]; rfl)
          · refine ws_nil ?_
            refine ws_seq ?_
            apply ws_ifP
            · simp_arith!
            all_goals intro h2
            · apply ws_retP
              · simp_arith! [l_is_name_is hpp]
              have h2 : w = giftS := of_decide_eq_true h2
              exact ⟨by rw [shal_n, if_pos h2], rfl⟩
            · have h2 : ¬ w = giftS := of_decide_eq_false h2
              refine ws_nil ?_
              refine ws_seq ?_
              cases p with
              | tuple ps =>
                obtain ⟨hpl, hps⟩ := pl_tup hpp
                have ih : ∀ a ∈ ps, Is (F_l_is_formula m) [.d a, .d (.int (((n + 1 : Nat) : Int) - 1))] (.bool (shal n a)) := fun a ha => by rw [hk2]; exact l_is_formula_is m n a (by omega) (hps a ha)
                apply ws_ifP
                · simp_arith! [a_nin (mem_tup joinsS)]
                all_goals intro h3
                · apply ws_retP
                  · simp_arith!
                  refine ⟨?_, rfl⟩
                  rw [shal_n, if_neg h2]
                  by_cases hj : w ∈ joinsS
                  · rw [if_pos hj]
                    simp only [isTupD, Bool.not_true, Bool.false_or, hj, decide_true, decide_eq_true_eq] at h3
                    rw [tupAnd_t, decide_eq_false (by omega), Bool.false_and]
                  · rw [if_neg hj]
                · apply ws_retP
                  · simp_arith!
                    apply po_fil (ps) (fun p => p)
                    · simp_arith! [ih a ha]
                    · first | rfl | exact (List.map_id _).symm | simp
                    · intro a ha; refine ⟨_, rfl, ?_, ?_, rfl⟩
                      · simp_arith! [ih a ha]
                      · intro hk; simp_arith! [ih a ha]
                    try any_goals (show S.wipe _ _ = _; rfl)
                    simp_arith!
                    refine a_nilL ?_
                    intro d hd
                    obtain ⟨c, hc, rfl⟩ := List.mem_map.mp hd
                    exact ⟨rfl, by decide⟩
                  · refine ⟨?_, rfl⟩
                    simp only [isTupD, Bool.not_true, Bool.false_or, Bool.or_eq_false_iff, Bool.not_eq_false', decide_eq_true_eq, decide_eq_false_iff_not] at h3
                    rw [shal_n, if_neg h2, if_pos h3.1, tupAnd_t]
                    rw [fil_all, decide_eq_true (show ps.length ≤ 8 by omega), Bool.true_and]
              | _ =>
                apply ws_ifP
                · simp_arith! [a_nin (mem_tup joinsS)]
                all_goals intro h3
                · apply ws_retP
                  · simp_arith!
                  refine ⟨?_, rfl⟩
                  rw [shal_n, if_neg h2]
                  by_cases hj : w ∈ joinsS
                  · rw [if_pos hj]; rfl
                  · rw [if_neg hj]
                · exact absurd h3 (by simp [isTupD])
        | [], hp, hn =>
          apply ws_ifP
          · simp_arith!
          all_goals intro h
          · apply ws_retP
            · simp_arith!
            exact ⟨by simp [shal], rfl⟩
          · exact absurd h (by simp [isTupD])
        | [a], hp, hn =>
          apply ws_ifP
          · simp_arith!
          all_goals intro h
          · apply ws_retP
            · simp_arith!
            exact ⟨by rw [shal_1], rfl⟩
          · exact absurd h (by simp [isTupD])
        | a :: b :: c :: r, hp, hn =>
          apply ws_ifP
          · simp_arith!
          all_goals intro h
          · apply ws_retP
            · simp_arith!
            exact ⟨by rw [shal_3], rfl⟩
          · exact absurd h (by simp [isTupD]; omega)
        | [.none, p], hp, hn =>
          obtain ⟨_, hs⟩ := pl_tup hp
          have ha := pl_noT (hs (.none) (by simp))
          apply ws_ifP
          · simp_arith!
          all_goals intro h
          · apply ws_retP
            · simp_arith!
            exact ⟨by simp [shal], rfl⟩
          · exact absurd h (by simp [isTupD, isStrD])
        | [.bool b, p], hp, hn =>
          obtain ⟨_, hs⟩ := pl_tup hp
          have ha := pl_noT (hs (.bool b) (by simp))
          apply ws_ifP
          · simp_arith!
          all_goals intro h
          · apply ws_retP
            · simp_arith!
            exact ⟨by simp [shal], rfl⟩
          · exact absurd h (by simp [isTupD, isStrD])
        | [.int i, p], hp, hn =>
          obtain ⟨_, hs⟩ := pl_tup hp
          have ha := pl_noT (hs (.int i) (by simp))
          apply ws_ifP
          · simp_arith!
          all_goals intro h
          · apply ws_retP
            · simp_arith!
            exact ⟨by simp [shal], rfl⟩
          · exact absurd h (by simp [isTupD, isStrD])
        | [.list l, p], hp, hn =>
          obtain ⟨_, hs⟩ := pl_tup hp
          have ha := pl_noT (hs (.list l) (by simp))
          apply ws_ifP
          · simp_arith!
          all_goals intro h
          · apply ws_retP
            · simp_arith!
            exact ⟨by simp [shal], rfl⟩
          · exact absurd h (by simp [isTupD, isStrD])
        | [.tuple l, p], hp, hn =>
          obtain ⟨_, hs⟩ := pl_tup hp
          have ha := pl_noT (hs (.tuple l) (by simp))
          apply ws_ifP
          · simp_arith!
          all_goals intro h
          · apply ws_retP
            · simp_arith!
            exact ⟨by simp [shal], rfl⟩
          · exact absurd h (by simp [isTupD, isStrD])
        | [.dict l, p], hp, hn =>
          obtain ⟨_, hs⟩ := pl_tup hp
          have ha := pl_noT (hs (.dict l) (by simp))
          apply ws_ifP
          · simp_arith!
          all_goals intro h
          · apply ws_retP
            · simp_arith!
            exact ⟨by simp [shal], rfl⟩
          · exact absurd h (by simp [isTupD, isStrD])
      | _ =>
        apply ws_ifP
        · simp_arith!
        all_goals intro h
        · apply ws_retP
          · simp_arith!
          exact ⟨by simp [shal], rfl⟩
        · exact absurd h (by simp [isTupD])
theorem is_formula_is {d : D} (hp : Pl d) : Is F_is_formula [.d d] (.bool (shal 6 d)) := by
  unfold F_is_formula
  refine is_fun fun sto => ?_
  have h6 : Is (F_is_shallow 24) [.d d, .d (.int 6)] (.bool (shal 6 d)) := is_shallow_is 24 6 d (by omega) hp
  apply ws_retP
  · simp_arith! [h6]
  exact ⟨rfl, rfl⟩
theorem is_set_is {d : D} (hp : Pl d) : Is F_is_set [.d d] (.bool (isSet d)) := by
  unfold F_is_set
  refine is_fun fun sto => ?_
  refine ws_seq ?_
  have hn := pl_noT hp
  cases d with
  | tuple ds =>
    obtain ⟨hl, hs⟩ := pl_tup hp
    apply ws_ifP
    · simp_arith!
      apply po_map (ds) (fun p => p)
      · simp_arith! [is_name_is (hs a ha)]
      · first | rfl | exact (List.map_id _).symm | simp
      · intro a ha; refine ⟨_, rfl, ?_, rfl⟩; simp_arith! [is_name_is (hs a ha)]
      try any_goals (show S.wipe _ _ = _; rfl)
      simp_arith!
    · intro h
      apply ws_retP
      · simp_arith!
      refine ⟨?_, rfl⟩
      simp only [isTupD, Bool.not_true, Bool.false_or, Bool.not_eq_true'] at h
      rw [isSet, h, Bool.false_and]
    · intro h
      refine ws_nil ?_
      simp only [isTupD, Bool.not_true, Bool.false_or, Bool.not_eq_false'] at h
      obtain ⟨xs, rfl⟩ := names_strs h
      rw [isSet, h, Bool.true_and]
      apply ws_retP
      · simp_arith!
        have hz : pairD (xs.map PyData.str) (cutL (xs.map PyData.str) (some 1) none) = (xs.zip xs.tail).map pairS := by rw [cut1, ← List.map_tail, pairD_strs]
        refine po_map (xs.zip xs.tail) pairS _ ?_ hz (fun a ha => ⟨_, rfl, pv_m2 (pv_d rfl) (pv_d rfl) a_ltS, rfl⟩) rfl
        · simp_arith!
        simp_arith!
      · rw [strOf_map]
        exact ⟨rfl, rfl⟩
  | _ =>
    apply ws_ifP
    · simp_arith!
    all_goals intro h
    · apply ws_retP
      · simp_arith!
      exact ⟨rfl, rfl⟩
    · exact Bool.noConfusion (show true = false from h)
theorem l_is_set_is {d : D} (hp : Pl d) : Is F_l_is_set [.d d] (.bool (isSet d)) := by
  unfold F_l_is_set
  refine is_fun fun sto => ?_
  refine ws_seq ?_
  have hn := pl_noT hp
  cases d with
  | tuple ds =>
    obtain ⟨hl, hs⟩ := pl_tup hp
    apply ws_ifP
    · simp_arith!
      apply po_fil (ds) (fun p => p)
      · simp_arith! [l_is_name_is (hs a ha)]
      · first | rfl | exact (List.map_id _).symm | simp
      · intro a ha; refine ⟨_, rfl, ?_, ?_, rfl⟩
        · simp_arith! [l_is_name_is (hs a ha)]
        · intro hk; simp_arith! [l_is_name_is (hs a ha)]
      try any_goals (show S.wipe _ _ = _; rfl)
      simp_arith!
      refine a_nnilL ?_
      intro d hd
      obtain ⟨c, hc, rfl⟩ := List.mem_map.mp hd
      exact ⟨rfl, by decide⟩
    · intro h
      apply ws_retP
      · simp_arith!
      refine ⟨?_, rfl⟩
      simp only [isTupD, Bool.not_true, Bool.false_or, fil_all, Bool.not_eq_true'] at h
      rw [isSet, h, Bool.false_and]
    · intro h
      refine ws_nil ?_
      simp only [isTupD, Bool.not_true, Bool.false_or, fil_all, Bool.not_eq_false'] at h
      obtain ⟨xs, rfl⟩ := names_strs h
      rw [isSet, h, Bool.true_and]
      have hx : ∀ x ∈ xs, Sh (.str x) := fun x hx => (pl_str (hs (.str x) (List.mem_map_of_mem hx))).1
      rw [List.length_map] at hl
      apply ws_retP
      · simp_arith!
        · exact a_setT (Nat.lt_of_le_of_lt (show _ ≤ 1001 by omega) (by decide))
        · apply a_eqD rfl rfl (shl_shaped fun d hd => by
            obtain ⟨x, h, rfl⟩ := List.mem_map.mp hd
            exact hx x h) (shl_shaped (ds := (setL ltS xs).map PyData.str) fun d hd => by
            obtain ⟨x, h, rfl⟩ := List.mem_map.mp hd
            exact hx x (setL_mem.mp h))
      · rw [strOf_map, eqv_strs, asc_set]
        exact ⟨rfl, rfl⟩
  | _ =>
    apply ws_ifP
    · simp_arith!
    all_goals intro h
    · apply ws_retP
      · simp_arith!
      exact ⟨rfl, rfl⟩
    · exact Bool.noConfusion (show true = false from h)
end Lk01
set_option Elab.async false
set_option linter.all false
set_option maxRecDepth 100000
set_option maxHeartbeats 400000
namespace Lk01
open PySem PySem.Spec PyProof.Rows L2 RA
local macro_rules
  | `(tactic| contradiction) => `(tactic| (first | decide +kernel | omega | assumption | exact sh_shaped (by assumption) | exact ⟨by omega, by omega⟩ | exact Or.inl (by decide) | exact Or.inr (by decide) | exact szl (by omega) | exact szl (by simp only [List.length_map, List.length_append, List.length_cons, List.length_nil]; omega)))
local macro_rules
  | `(tactic| infer_instance) => `(tactic| (first | (with_reducible (first | refine wp_C ?_ | refine wp_m2 ?_ | refine wp_m1 ?_ | refine wp_B ?_ | refine isB_ok ?_ | refine if_tt ?_ | refine if_ff ?_ | refine isV_v ?_ | refine isO_o ?_ | refine ws_seq ?_ | refine ws_nil ?_ | refine wp_nil ?_ | refine wp_cons ?_ | refine wp_call ?_ | refine wp_callF ?_ | refine ws_if ?_ | refine ws_ret ?_ | refine ws_set ?_ | refine toSl_d ?_ | refine wp_tup ?_ | refine wp_lst ?_ | refine wp_frz ?_ | refine isFr_l ?_ | refine isFr_k ?_ | refine wp_and ?_ | refine wp_or ?_ | refine wp_not ?_ | refine wp_andV ?_ | refine wp_orV ?_ | refine wp_notV ?_ | refine wp_if ?_ | refine wp_eqI ?_ | refine wp_neI ?_ | refine wp_neB ?_ | refine wp_eqB ?_ | refine wp_addI ?_ | refine wp_subI ?_ | refine wp_ltI ?_ | refine wp_leI ?_ | refine wp_gtI ?_ | refine wp_geI ?_ | refine wp_int ?_ | refine wp_opI ?_ | refine wp_neg ?_ | refine wp_chain ?_ | refine ws_expr ?_ | refine ws_retF ?_ | refine ws_own ?_ | refine ws_loc ?_ | refine ws_frz ?_ | refine ws_unp ?_ | refine ws_FF ?_ | refine ws_FV ?_ | refine ws_VF ?_ | refine ws_par ?_ | refine ws_store ?_ | refine ws_augS ?_ | refine ws_storeK ?_ | refine ws_forK ?_ | refine wp_oN ?_ | refine wp_oS ?_ | refine isI_ok ?_ | refine wp_sl ?_ | refine wp_mt ?_ | refine wp_mt0 ?_ | refine wp_src ?_ | refine wp_items ?_ | refine wp_itemsA ?_ | refine wp_enum ?_ | refine wp_zip ?_ | refine wp_yes ?_ | refine wp_kget ?_ | refine wp_enumL ?_ | refine wp_itemL ?_ | refine wp_itemT ?_)) | ((with_reducible apply wp_V); rfl) | ((with_reducible apply ws_aug); rfl) | ((with_reducible apply wp_isi); rfl) | ((with_reducible apply wp_O); rfl) | ((with_reducible apply wp_d); rfl) | ((with_reducible apply wp_l); rfl) | ((with_reducible apply wp_o); rfl) | ((with_reducible apply wp_f); rfl)  | (focus ((with_reducible refine wp_eqS ?_ ?_ ?_); rotate_left; contradiction; contradiction)) | (focus ((with_reducible refine wp_neS ?_ ?_ ?_); rotate_left; contradiction; contradiction)) | (focus ((with_reducible refine wp_mod ?_ ?_); rotate_left; contradiction)) | (focus ((with_reducible refine wp_fdiv ?_ ?_ ?_); rotate_left; contradiction; contradiction)) | (focus ((with_reducible refine wp_mul ?_ ?_); rotate_left; contradiction)) | (focus ((with_reducible refine wp_powI ?_ ?_); rotate_left; contradiction)) | (focus ((with_reducible refine wp_addL ?_ ?_); rotate_left; contradiction)) | (focus ((with_reducible refine wp_addT ?_ ?_); rotate_left; contradiction)) | (focus ((with_reducible refine wp_range1 ?_ ?_); rotate_left; contradiction)) | ((with_reducible apply isDs_ok); rfl; exact Nat.le_of_ble_eq_true rfl) | ((with_reducible apply isAt_ok); rfl) | ((with_reducible apply isMt_ok); rfl) | (focus ((with_reducible apply wp_app); rfl; rotate_left; first | contradiction | rotate_left)) | (focus ((with_reducible apply wp_extT); rfl; rotate_left; first | contradiction | rotate_left)) | (focus ((with_reducible apply wp_extA); rfl; rfl; rotate_left; first | contradiction | rotate_left)) | refine wp_ok ?_))
local macro_rules
  | `(tactic| simp_arith) => `(tactic| repeat infer_instance)
local macro_rules
  | `(tactic| simp_all_arith) => `(tactic| repeat (first | (fail_if_success (with_reducible refine ws_if ?_)); infer_instance))
local macro_rules
  | `(tactic| simp_arith [$a0:term]) => `(tactic| repeat (first | (with_reducible (first | refine wp_C ?_ | refine wp_m2 ?_ | refine wp_m1 ?_ | refine wp_B ?_ | refine isB_ok ?_ | refine if_tt ?_ | refine if_ff ?_ | refine isV_v ?_ | refine isO_o ?_ | refine ws_seq ?_ | refine ws_nil ?_ | refine wp_nil ?_ | refine wp_cons ?_ | refine wp_call ?_ | refine wp_callF ?_ | refine ws_if ?_ | refine ws_ret ?_ | refine ws_set ?_ | refine toSl_d ?_ | refine wp_tup ?_ | refine wp_lst ?_ | refine wp_frz ?_ | refine isFr_l ?_ | refine isFr_k ?_ | refine wp_and ?_ | refine wp_or ?_ | refine wp_not ?_ | refine wp_andV ?_ | refine wp_orV ?_ | refine wp_notV ?_ | refine wp_if ?_ | refine wp_eqI ?_ | refine wp_neI ?_ | refine wp_neB ?_ | refine wp_eqB ?_ | refine wp_addI ?_ | refine wp_subI ?_ | refine wp_ltI ?_ | refine wp_leI ?_ | refine wp_gtI ?_ | refine wp_geI ?_ | refine wp_int ?_ | refine wp_opI ?_ | refine wp_neg ?_ | refine wp_chain ?_ | refine ws_expr ?_ | refine ws_retF ?_ | refine ws_own ?_ | refine ws_loc ?_ | refine ws_frz ?_ | refine ws_unp ?_ | refine ws_FF ?_ | refine ws_FV ?_ | refine ws_VF ?_ | refine ws_par ?_ | refine ws_store ?_ | refine ws_augS ?_ | refine ws_storeK ?_ | refine ws_forK ?_ | refine wp_oN ?_ | refine wp_oS ?_ | refine isI_ok ?_ | refine wp_sl ?_ | refine wp_mt ?_ | refine wp_mt0 ?_ | refine wp_src ?_ | refine wp_items ?_ | refine wp_itemsA ?_ | refine wp_enum ?_ | refine wp_zip ?_ | refine wp_yes ?_ | refine wp_kget ?_ | refine wp_enumL ?_ | refine wp_itemL ?_ | refine wp_itemT ?_)) | ((with_reducible apply wp_is0 $a0); rfl) | infer_instance))
local macro_rules
  | `(tactic| simp_arith [$a0:term, $a1:term]) => `(tactic| repeat (first | (with_reducible (first | refine wp_C ?_ | refine wp_m2 ?_ | refine wp_m1 ?_ | refine wp_B ?_ | refine isB_ok ?_ | refine if_tt ?_ | refine if_ff ?_ | refine isV_v ?_ | refine isO_o ?_ | refine ws_seq ?_ | refine ws_nil ?_ | refine wp_nil ?_ | refine wp_cons ?_ | refine wp_call ?_ | refine wp_callF ?_ | refine ws_if ?_ | refine ws_ret ?_ | refine ws_set ?_ | refine toSl_d ?_ | refine wp_tup ?_ | refine wp_lst ?_ | refine wp_frz ?_ | refine isFr_l ?_ | refine isFr_k ?_ | refine wp_and ?_ | refine wp_or ?_ | refine wp_not ?_ | refine wp_andV ?_ | refine wp_orV ?_ | refine wp_notV ?_ | refine wp_if ?_ | refine wp_eqI ?_ | refine wp_neI ?_ | refine wp_neB ?_ | refine wp_eqB ?_ | refine wp_addI ?_ | refine wp_subI ?_ | refine wp_ltI ?_ | refine wp_leI ?_ | refine wp_gtI ?_ | refine wp_geI ?_ | refine wp_int ?_ | refine wp_opI ?_ | refine wp_neg ?_ | refine wp_chain ?_ | refine ws_expr ?_ | refine ws_retF ?_ | refine ws_own ?_ | refine ws_loc ?_ | refine ws_frz ?_ | refine ws_unp ?_ | refine ws_FF ?_ | refine ws_FV ?_ | refine ws_VF ?_ | refine ws_par ?_ | refine ws_store ?_ | refine ws_augS ?_ | refine ws_storeK ?_ | refine ws_forK ?_ | refine wp_oN ?_ | refine wp_oS ?_ | refine isI_ok ?_ | refine wp_sl ?_ | refine wp_mt ?_ | refine wp_mt0 ?_ | refine wp_src ?_ | refine wp_items ?_ | refine wp_itemsA ?_ | refine wp_enum ?_ | refine wp_zip ?_ | refine wp_yes ?_ | refine wp_kget ?_ | refine wp_enumL ?_ | refine wp_itemL ?_ | refine wp_itemT ?_)) | ((with_reducible apply wp_is0 $a0); rfl) | ((with_reducible apply wp_is0 $a1); rfl) | infer_instance))
local macro_rules
  | `(tactic| simp_arith [$a0:term, $a1:term, $a2:term]) => `(tactic| repeat (first | (with_reducible (first | refine wp_C ?_ | refine wp_m2 ?_ | refine wp_m1 ?_ | refine wp_B ?_ | refine isB_ok ?_ | refine if_tt ?_ | refine if_ff ?_ | refine isV_v ?_ | refine isO_o ?_ | refine ws_seq ?_ | refine ws_nil ?_ | refine wp_nil ?_ | refine wp_cons ?_ | refine wp_call ?_ | refine wp_callF ?_ | refine ws_if ?_ | refine ws_ret ?_ | refine ws_set ?_ | refine toSl_d ?_ | refine wp_tup ?_ | refine wp_lst ?_ | refine wp_frz ?_ | refine isFr_l ?_ | refine isFr_k ?_ | refine wp_and ?_ | refine wp_or ?_ | refine wp_not ?_ | refine wp_andV ?_ | refine wp_orV ?_ | refine wp_notV ?_ | refine wp_if ?_ | refine wp_eqI ?_ | refine wp_neI ?_ | refine wp_neB ?_ | refine wp_eqB ?_ | refine wp_addI ?_ | refine wp_subI ?_ | refine wp_ltI ?_ | refine wp_leI ?_ | refine wp_gtI ?_ | refine wp_geI ?_ | refine wp_int ?_ | refine wp_opI ?_ | refine wp_neg ?_ | refine wp_chain ?_ | refine ws_expr ?_ | refine ws_retF ?_ | refine ws_own ?_ | refine ws_loc ?_ | refine ws_frz ?_ | refine ws_unp ?_ | refine ws_FF ?_ | refine ws_FV ?_ | refine ws_VF ?_ | refine ws_par ?_ | refine ws_store ?_ | refine ws_augS ?_ | refine ws_storeK ?_ | refine ws_forK ?_ | refine wp_oN ?_ | refine wp_oS ?_ | refine isI_ok ?_ | refine wp_sl ?_ | refine wp_mt ?_ | refine wp_mt0 ?_ | refine wp_src ?_ | refine wp_items ?_ | refine wp_itemsA ?_ | refine wp_enum ?_ | refine wp_zip ?_ | refine wp_yes ?_ | refine wp_kget ?_ | refine wp_enumL ?_ | refine wp_itemL ?_ | refine wp_itemT ?_)) | ((with_reducible apply wp_is0 $a0); rfl) | ((with_reducible apply wp_is0 $a1); rfl) | ((with_reducible apply wp_is0 $a2); rfl) | infer_instance))
local macro_rules
  | `(tactic| simp_arith [$a0:term, $a1:term, $a2:term, $a3:term]) => `(tactic| repeat (first | (with_reducible (first | refine wp_C ?_ | refine wp_m2 ?_ | refine wp_m1 ?_ | refine wp_B ?_ | refine isB_ok ?_ | refine if_tt ?_ | refine if_ff ?_ | refine isV_v ?_ | refine isO_o ?_ | refine ws_seq ?_ | refine ws_nil ?_ | refine wp_nil ?_ | refine wp_cons ?_ | refine wp_call ?_ | refine wp_callF ?_ | refine ws_if ?_ | refine ws_ret ?_ | refine ws_set ?_ | refine toSl_d ?_ | refine wp_tup ?_ | refine wp_lst ?_ | refine wp_frz ?_ | refine isFr_l ?_ | refine isFr_k ?_ | refine wp_and ?_ | refine wp_or ?_ | refine wp_not ?_ | refine wp_andV ?_ | refine wp_orV ?_ | refine wp_notV ?_ | refine wp_if ?_ | refine wp_eqI ?_ | refine wp_neI ?_ | refine wp_neB ?_ | refine wp_eqB ?_ | refine wp_addI ?_ | refine wp_subI ?_ | refine wp_ltI ?_ | refine wp_leI ?_ | refine wp_gtI ?_ | refine wp_geI ?_ | refine wp_int ?_ | refine wp_opI ?_ | refine wp_neg ?_ | refine wp_chain ?_ | refine ws_expr ?_ | refine ws_retF ?_ | refine ws_own ?_ | refine ws_loc ?_ | refine ws_frz ?_ | refine ws_unp ?_ | refine ws_FF ?_ | refine ws_FV ?_ | refine ws_VF ?_ | refine ws_par ?_ | refine ws_store ?_ | refine ws_augS ?_ | refine ws_storeK ?_ | refine ws_forK ?_ | refine wp_oN ?_ | refine wp_oS ?_ | refine isI_ok ?_ | refine wp_sl ?_ | refine wp_mt ?_ | refine wp_mt0 ?_ | refine wp_src ?_ | refine wp_items ?_ | refine wp_itemsA ?_ | refine wp_enum ?_ | refine wp_zip ?_ | refine wp_yes ?_ | refine wp_kget ?_ | refine wp_enumL ?_ | refine wp_itemL ?_ | refine wp_itemT ?_)) | ((with_reducible apply wp_is0 $a0); rfl) | ((with_reducible apply wp_is0 $a1); rfl) | ((with_reducible apply wp_is0 $a2); rfl) | ((with_reducible apply wp_is0 $a3); rfl) | infer_instance))
local macro_rules
  | `(tactic| simp_arith [$a0:term, $a1:term, $a2:term, $a3:term, $a4:term]) => `(tactic| repeat (first | (with_reducible (first | refine wp_C ?_ | refine wp_m2 ?_ | refine wp_m1 ?_ | refine wp_B ?_ | refine isB_ok ?_ | refine if_tt ?_ | refine if_ff ?_ | refine isV_v ?_ | refine isO_o ?_ | refine ws_seq ?_ | refine ws_nil ?_ | refine wp_nil ?_ | refine wp_cons ?_ | refine wp_call ?_ | refine wp_callF ?_ | refine ws_if ?_ | refine ws_ret ?_ | refine ws_set ?_ | refine toSl_d ?_ | refine wp_tup ?_ | refine wp_lst ?_ | refine wp_frz ?_ | refine isFr_l ?_ | refine isFr_k ?_ | refine wp_and ?_ | refine wp_or ?_ | refine wp_not ?_ | refine wp_andV ?_ | refine wp_orV ?_ | refine wp_notV ?_ | refine wp_if ?_ | refine wp_eqI ?_ | refine wp_neI ?_ | refine wp_neB ?_ | refine wp_eqB ?_ | refine wp_addI ?_ | refine wp_subI ?_ | refine wp_ltI ?_ | refine wp_leI ?_ | refine wp_gtI ?_ | refine wp_geI ?_ | refine wp_int ?_ | refine wp_opI ?_ | refine wp_neg ?_ | refine wp_chain ?_ | refine ws_expr ?_ | refine ws_retF ?_ | refine ws_own ?_ | refine ws_loc ?_ | refine ws_frz ?_ | refine ws_unp ?_ | refine ws_FF ?_ | refine ws_FV ?_ | refine ws_VF ?_ | refine ws_par ?_ | refine ws_store ?_ | refine ws_augS ?_ | refine ws_storeK ?_ | refine ws_forK ?_ | refine wp_oN ?_ | refine wp_oS ?_ | refine isI_ok ?_ | refine wp_sl ?_ | refine wp_mt ?_ | refine wp_mt0 ?_ | refine wp_src ?_ | refine wp_items ?_ | refine wp_itemsA ?_ | refine wp_enum ?_ | refine wp_zip ?_ | refine wp_yes ?_ | refine wp_kget ?_ | refine wp_enumL ?_ | refine wp_itemL ?_ | refine wp_itemT ?_)) | ((with_reducible apply wp_is0 $a0); rfl) | ((with_reducible apply wp_is0 $a1); rfl) | ((with_reducible apply wp_is0 $a2); rfl) | ((with_reducible apply wp_is0 $a3); rfl) | ((with_reducible apply wp_is0 $a4); rfl) | infer_instance))
local macro_rules
  | `(tactic| simp_arith [$a0:term, $a1:term, $a2:term, $a3:term, $a4:term, $a5:term]) => `(tactic| repeat (first | (with_reducible (first | refine wp_C ?_ | refine wp_m2 ?_ | refine wp_m1 ?_ | refine wp_B ?_ | refine isB_ok ?_ | refine if_tt ?_ | refine if_ff ?_ | refine isV_v ?_ | refine isO_o ?_ | refine ws_seq ?_ | refine ws_nil ?_ | refine wp_nil ?_ | refine wp_cons ?_ | refine wp_call ?_ | refine wp_callF ?_ | refine ws_if ?_ | refine ws_ret ?_ | refine ws_set ?_ | refine toSl_d ?_ | refine wp_tup ?_ | refine wp_lst ?_ | refine wp_frz ?_ | refine isFr_l ?_ | refine isFr_k ?_ | refine wp_and ?_ | refine wp_or ?_ | refine wp_not ?_ | refine wp_andV ?_ | refine wp_orV ?_ | refine wp_notV ?_ | refine wp_if ?_ | refine wp_eqI ?_ | refine wp_neI ?_ | refine wp_neB ?_ | refine wp_eqB ?_ | refine wp_addI ?_ | refine wp_subI ?_ | refine wp_ltI ?_ | refine wp_leI ?_ | refine wp_gtI ?_ | refine wp_geI ?_ | refine wp_int ?_ | refine wp_opI ?_ | refine wp_neg ?_ | refine wp_chain ?_ | refine ws_expr ?_ | refine ws_retF ?_ | refine ws_own ?_ | refine ws_loc ?_ | refine ws_frz ?_ | refine ws_unp ?_ | refine ws_FF ?_ | refine ws_FV ?_ | refine ws_VF ?_ | refine ws_par ?_ | refine ws_store ?_ | refine ws_augS ?_ | refine ws_storeK ?_ | refine ws_forK ?_ | refine wp_oN ?_ | refine wp_oS ?_ | refine isI_ok ?_ | refine wp_sl ?_ | refine wp_mt ?_ | refine wp_mt0 ?_ | refine wp_src ?_ | refine wp_items ?_ | refine wp_itemsA ?_ | refine wp_enum ?_ | refine wp_zip ?_ | refine wp_yes ?_ | refine wp_kget ?_ | refine wp_enumL ?_ | refine wp_itemL ?_ | refine wp_itemT ?_)) | ((with_reducible apply wp_is0 $a0); rfl) | ((with_reducible apply wp_is0 $a1); rfl) | ((with_reducible apply wp_is0 $a2); rfl) | ((with_reducible apply wp_is0 $a3); rfl) | ((with_reducible apply wp_is0 $a4); rfl) | ((with_reducible apply wp_is0 $a5); rfl) | infer_instance))
local macro_rules
  | `(tactic| simp_arith [$a0:term, $a1:term, $a2:term, $a3:term, $a4:term, $a5:term, $a6:term]) => `(tactic| repeat (first | (with_reducible (first | refine wp_C ?_ | refine wp_m2 ?_ | refine wp_m1 ?_ | refine wp_B ?_ | refine isB_ok ?_ | refine if_tt ?_ | refine if_ff ?_ | refine isV_v ?_ | refine isO_o ?_ | refine ws_seq ?_ | refine ws_nil ?_ | refine wp_nil ?_ | refine wp_cons ?_ | refine wp_call ?_ | refine wp_callF ?_ | refine ws_if ?_ | refine ws_ret ?_ | refine ws_set ?_ | refine toSl_d ?_ | refine wp_tup ?_ | refine wp_lst ?_ | refine wp_frz ?_ | refine isFr_l ?_ | refine isFr_k ?_ | refine wp_and ?_ | refine wp_or ?_ | refine wp_not ?_ | refine wp_andV ?_ | refine wp_orV ?_ | refine wp_notV ?_ | refine wp_if ?_ | refine wp_eqI ?_ | refine wp_neI ?_ | refine wp_neB ?_ | refine wp_eqB ?_ | refine wp_addI ?_ | refine wp_subI ?_ | refine wp_ltI ?_ | refine wp_leI ?_ | refine wp_gtI ?_ | refine wp_geI ?_ | refine wp_int ?_ | refine wp_opI ?_ | refine wp_neg ?_ | refine wp_chain ?_ | refine ws_expr ?_ | refine ws_retF ?_ | refine ws_own ?_ | refine ws_loc ?_ | refine ws_frz ?_ | refine ws_unp ?_ | refine ws_FF ?_ | refine ws_FV ?_ | refine ws_VF ?_ | refine ws_par ?_ | refine ws_store ?_ | refine ws_augS ?_ | refine ws_storeK ?_ | refine ws_forK ?_ | refine wp_oN ?_ | refine wp_oS ?_ | refine isI_ok ?_ | refine wp_sl ?_ | refine wp_mt ?_ | refine wp_mt0 ?_ | refine wp_src ?_ | refine wp_items ?_ | refine wp_itemsA ?_ | refine wp_enum ?_ | refine wp_zip ?_ | refine wp_yes ?_ | refine wp_kget ?_ | refine wp_enumL ?_ | refine wp_itemL ?_ | refine wp_itemT ?_)) | ((with_reducible apply wp_is0 $a0); rfl) | ((with_reducible apply wp_is0 $a1); rfl) | ((with_reducible apply wp_is0 $a2); rfl) | ((with_reducible apply wp_is0 $a3); rfl) | ((with_reducible apply wp_is0 $a4); rfl) | ((with_reducible apply wp_is0 $a5); rfl) | ((with_reducible apply wp_is0 $a6); rfl) | infer_instance))
local macro_rules
  | `(tactic| simp_arith [$a0:term, $a1:term, $a2:term, $a3:term, $a4:term, $a5:term, $a6:term, $a7:term]) => `(tactic| repeat (first | (with_reducible (first | refine wp_C ?_ | refine wp_m2 ?_ | refine wp_m1 ?_ | refine wp_B ?_ | refine isB_ok ?_ | refine if_tt ?_ | refine if_ff ?_ | refine isV_v ?_ | refine isO_o ?_ | refine ws_seq ?_ | refine ws_nil ?_ | refine wp_nil ?_ | refine wp_cons ?_ | refine wp_call ?_ | refine wp_callF ?_ | refine ws_if ?_ | refine ws_ret ?_ | refine ws_set ?_ | refine toSl_d ?_ | refine wp_tup ?_ | refine wp_lst ?_ | refine wp_frz ?_ | refine isFr_l ?_ | refine isFr_k ?_ | refine wp_and ?_ | refine wp_or ?_ | refine wp_not ?_ | refine wp_andV ?_ | refine wp_orV ?_ | refine wp_notV ?_ | refine wp_if ?_ | refine wp_eqI ?_ | refine wp_neI ?_ | refine wp_neB ?_ | refine wp_eqB ?_ | refine wp_addI ?_ | refine wp_subI ?_ | refine wp_ltI ?_ | refine wp_leI ?_ | refine wp_gtI ?_ | refine wp_geI ?_ | refine wp_int ?_ | refine wp_opI ?_ | refine wp_neg ?_ | refine wp_chain ?_ | refine ws_expr ?_ | refine ws_retF ?_ | refine ws_own ?_ | refine ws_loc ?_ | refine ws_frz ?_ | refine ws_unp ?_ | refine ws_FF ?_ | refine ws_FV ?_ | refine ws_VF ?_ | refine ws_par ?_ | refine ws_store ?_ | refine ws_augS ?_ | refine ws_storeK ?_ | refine ws_forK ?_ | refine wp_oN ?_ | refine wp_oS ?_ | refine isI_ok ?_ | refine wp_sl ?_ | refine wp_mt ?_ | refine wp_mt0 ?_ | refine wp_src ?_ | refine wp_items ?_ | refine wp_itemsA ?_ | refine wp_enum ?_ | refine wp_zip ?_ | refine wp_yes ?_ | refine wp_kget ?_ | refine wp_enumL ?_ | refine wp_itemL ?_ | refine wp_itemT ?_)) | ((with_reducible apply wp_is0 $a0); rfl) | ((with_reducible apply wp_is0 $a1); rfl) | ((with_reducible apply wp_is0 $a2); rfl) | ((with_reducible apply wp_is0 $a3); rfl) | ((with_reducible apply wp_is0 $a4); rfl) | ((with_reducible apply wp_is0 $a5); rfl) | ((with_reducible apply wp_is0 $a6); rfl) | ((with_reducible apply wp_is0 $a7); rfl) | infer_instance))
local macro_rules
  | `(tactic| array_get_dec) => `(tactic| (first | (with_reducible (first | apply pv_C | apply pv_kt | apply pl_nil | apply tb_yes | apply pi_N | apply po_dnew | apply pv_m2 | apply pv_m1 | apply pl_cons | apply pv_call | apply po_callF | apply pv_frzL | apply tb_B | apply tb_not | apply pv_notV | apply pi_S | apply pv_sl | apply pj_itemsA | apply pj_items | apply pj_enum | apply pj_src | apply pj_zip | apply pv_tup | apply po_lst | apply a_eqI | apply a_neI | apply a_eqB | apply a_neB | apply a_addI | apply a_subI | apply a_leI | apply a_ltI | apply a_gtI | apply a_geI | apply a_ltS | apply a_lenL | apply a_lenT | apply a_tuple | apply a_tupT | apply a_listL | apply a_listT | apply a_intB | apply a_intI | apply a_slL | apply a_slT | apply a_isN | apply a_notN | apply aj_lst | apply aj_tup | apply aj_kt | apply aj_frz | apply aj_enumL | apply a_all | apply a_any | apply tb_and | apply tb_or | apply pv_andV | apply pv_orV | apply pv_chain | apply pv_ifD)) | ((with_reducible apply pv_d); rfl) | ((with_reducible apply pv_o); rfl) | ((with_reducible apply pv_f); rfl) | ((with_reducible apply pv_l); rfl) | ((with_reducible apply a_isi); first | rfl | assumption) | (focus ((with_reducible apply a_eqS); contradiction; contradiction)) | (focus ((with_reducible apply a_neS); contradiction; contradiction)) | (focus ((with_reducible apply a_addL); contradiction)) | (focus ((with_reducible apply a_addT); contradiction)) | (focus ((with_reducible apply a_lenS); contradiction)) | (focus ((with_reducible apply aj_str); contradiction)) | (focus ((with_reducible apply aj_range1); contradiction)) | (focus ((with_reducible apply aj_zipT); contradiction)) | (focus ((with_reducible apply aj_zipL); contradiction))))
local macro_rules
  | `(tactic| simp_arith!) => `(tactic| repeat (first | array_get_dec | exact tb_absF rfl | exact tb_absT rfl | exact pv_absF rfl | exact pv_absT rfl | exact a2_absT rfl | intro _ | exact (false : Bool) | ((with_reducible apply a_ix); rfl) | ((with_reducible apply a_ixL); rfl) | (exact Nat.le_of_ble_eq_true rfl) | exact rfl))
local macro_rules
  | `(tactic| simp_arith! [$a0:term]) => `(tactic| repeat (first | array_get_dec | ((with_reducible apply a_is0 $a0); rfl) | ((with_reducible apply a2_id); exact $a0) | ((with_reducible apply ao_id); exact $a0) | (with_reducible exact $a0) | exact tb_absF rfl | exact tb_absT rfl | exact pv_absF rfl | exact pv_absT rfl | exact a2_absT rfl | intro _ | exact (false : Bool) | ((with_reducible apply a_ix); rfl) | ((with_reducible apply a_ixL); rfl) | (exact Nat.le_of_ble_eq_true rfl) | exact rfl))
local macro_rules
  | `(tactic| simp_arith! [$a0:term, $a1:term]) => `(tactic| repeat (first | array_get_dec | ((with_reducible apply a_is0 $a0); rfl) | ((with_reducible apply a2_id); exact $a0) | ((with_reducible apply ao_id); exact $a0) | (with_reducible exact $a0) | ((with_reducible apply a_is0 $a1); rfl) | ((with_reducible apply a2_id); exact $a1) | ((with_reducible apply ao_id); exact $a1) | (with_reducible exact $a1) | exact tb_absF rfl | exact tb_absT rfl | exact pv_absF rfl | exact pv_absT rfl | exact a2_absT rfl | intro _ | exact (false : Bool) | ((with_reducible apply a_ix); rfl) | ((with_reducible apply a_ixL); rfl) | (exact Nat.le_of_ble_eq_true rfl) | exact rfl))
local macro_rules
  | `(tactic| simp_arith! [$a0:term, $a1:term, $a2:term]) => `(tactic| repeat (first | array_get_dec | ((with_reducible apply a_is0 $a0); rfl) | ((with_reducible apply a2_id); exact $a0) | ((with_reducible apply ao_id); exact $a0) | (with_reducible exact $a0) | ((with_reducible apply a_is0 $a1); rfl) | ((with_reducible apply a2_id); exact $a1) | ((with_reducible apply ao_id); exact $a1) | (with_reducible exact $a1) | ((with_reducible apply a_is0 $a2); rfl) | ((with_reducible apply a2_id); exact $a2) | ((with_reducible apply ao_id); exact $a2) | (with_reducible exact $a2) | exact tb_absF rfl | exact tb_absT rfl | exact pv_absF rfl | exact pv_absT rfl | exact a2_absT rfl | intro _ | exact (false : Bool) | ((with_reducible apply a_ix); rfl) | ((with_reducible apply a_ixL); rfl) | (exact Nat.le_of_ble_eq_true rfl) | exact rfl))
local macro_rules
  | `(tactic| simp_arith! [$a0:term, $a1:term, $a2:term, $a3:term]) => `(tactic| repeat (first | array_get_dec | ((with_reducible apply a_is0 $a0); rfl) | ((with_reducible apply a2_id); exact $a0) | ((with_reducible apply ao_id); exact $a0) | (with_reducible exact $a0) | ((with_reducible apply a_is0 $a1); rfl) | ((with_reducible apply a2_id); exact $a1) | ((with_reducible apply ao_id); exact $a1) | (with_reducible exact $a1) | ((with_reducible apply a_is0 $a2); rfl) | ((with_reducible apply a2_id); exact $a2) | ((with_reducible apply ao_id); exact $a2) | (with_reducible exact $a2) | ((with_reducible apply a_is0 $a3); rfl) | ((with_reducible apply a2_id); exact $a3) | ((with_reducible apply ao_id); exact $a3) | (with_reducible exact $a3) | exact tb_absF rfl | exact tb_absT rfl | exact pv_absF rfl | exact pv_absT rfl | exact a2_absT rfl | intro _ | exact (false : Bool) | ((with_reducible apply a_ix); rfl) | ((with_reducible apply a_ixL); rfl) | (exact Nat.le_of_ble_eq_true rfl) | exact rfl))
local macro_rules
  | `(tactic| simp_arith! [$a0:term, $a1:term, $a2:term, $a3:term, $a4:term]) => `(tactic| repeat (first | array_get_dec | ((with_reducible apply a_is0 $a0); rfl) | ((with_reducible apply a2_id); exact $a0) | ((with_reducible apply ao_id); exact $a0) | (with_reducible exact $a0) | ((with_reducible apply a_is0 $a1); rfl) | ((with_reducible apply a2_id); exact $a1) | ((with_reducible apply ao_id); exact $a1) | (with_reducible exact $a1) | ((with_reducible apply a_is0 $a2); rfl) | ((with_reducible apply a2_id); exact $a2) | ((with_reducible apply ao_id); exact $a2) | (with_reducible exact $a2) | ((with_reducible apply a_is0 $a3); rfl) | ((with_reducible apply a2_id); exact $a3) | ((with_reducible apply ao_id); exact $a3) | (with_reducible exact $a3) | ((with_reducible apply a_is0 $a4); rfl) | ((with_reducible apply a2_id); exact $a4) | ((with_reducible apply ao_id); exact $a4) | (with_reducible exact $a4) | exact tb_absF rfl | exact tb_absT rfl | exact pv_absF rfl | exact pv_absT rfl | exact a2_absT rfl | intro _ | exact (false : Bool) | ((with_reducible apply a_ix); rfl) | ((with_reducible apply a_ixL); rfl) | (exact Nat.le_of_ble_eq_true rfl) | exact rfl))
local macro_rules
  | `(tactic| simp_arith! [$a0:term, $a1:term, $a2:term, $a3:term, $a4:term, $a5:term]) => `(tactic| repeat (first | array_get_dec | ((with_reducible apply a_is0 $a0); rfl) | ((with_reducible apply a2_id); exact $a0) | ((with_reducible apply ao_id); exact $a0) | (with_reducible exact $a0) | ((with_reducible apply a_is0 $a1); rfl) | ((with_reducible apply a2_id); exact $a1) | ((with_reducible apply ao_id); exact $a1) | (with_reducible exact $a1) | ((with_reducible apply a_is0 $a2); rfl) | ((with_reducible apply a2_id); exact $a2) | ((with_reducible apply ao_id); exact $a2) | (with_reducible exact $a2) | ((with_reducible apply a_is0 $a3); rfl) | ((with_reducible apply a2_id); exact $a3) | ((with_reducible apply ao_id); exact $a3) | (with_reducible exact $a3) | ((with_reducible apply a_is0 $a4); rfl) | ((with_reducible apply a2_id); exact $a4) | ((with_reducible apply ao_id); exact $a4) | (with_reducible exact $a4) | ((with_reducible apply a_is0 $a5); rfl) | ((with_reducible apply a2_id); exact $a5) | ((with_reducible apply ao_id); exact $a5) | (with_reducible exact $a5) | exact tb_absF rfl | exact tb_absT rfl | exact pv_absF rfl | exact pv_absT rfl | exact a2_absT rfl | intro _ | exact (false : Bool) | ((with_reducible apply a_ix); rfl) | ((with_reducible apply a_ixL); rfl) | (exact Nat.le_of_ble_eq_true rfl) | exact rfl))
local macro_rules
  | `(tactic| simp_arith! [$a0:term, $a1:term, $a2:term, $a3:term, $a4:term, $a5:term, $a6:term]) => `(tactic| repeat (first | array_get_dec | ((with_reducible apply a_is0 $a0); rfl) | ((with_reducible apply a2_id); exact $a0) | ((with_reducible apply ao_id); exact $a0) | (with_reducible exact $a0) | ((with_reducible apply a_is0 $a1); rfl) | ((with_reducible apply a2_id); exact $a1) | ((with_reducible apply ao_id); exact $a1) | (with_reducible exact $a1) | ((with_reducible apply a_is0 $a2); rfl) | ((with_reducible apply a2_id); exact $a2) | ((with_reducible apply ao_id); exact $a2) | (with_reducible exact $a2) | ((with_reducible apply a_is0 $a3); rfl) | ((with_reducible apply a2_id); exact $a3) | ((with_reducible apply ao_id); exact $a3) | (with_reducible exact $a3) | ((with_reducible apply a_is0 $a4); rfl) | ((with_reducible apply a2_id); exact $a4) | ((with_reducible apply ao_id); exact $a4) | (with_reducible exact $a4) | ((with_reducible apply a_is0 $a5); rfl) | ((with_reducible apply a2_id); exact $a5) | ((with_reducible apply ao_id); exact $a5) | (with_reducible exact $a5) | ((with_reducible apply a_is0 $a6); rfl) | ((with_reducible apply a2_id); exact $a6) | ((with_reducible apply ao_id); exact $a6) | (with_reducible exact $a6) | exact tb_absF rfl | exact tb_absT rfl | exact pv_absF rfl | exact pv_absT rfl | exact a2_absT rfl | intro _ | exact (false : Bool) | ((with_reducible apply a_ix); rfl) | ((with_reducible apply a_ixL); rfl) | (exact Nat.le_of_ble_eq_true rfl) | exact rfl))
local macro_rules
  | `(tactic| simp_arith! [$a0:term, $a1:term, $a2:term, $a3:term, $a4:term, $a5:term, $a6:term, $a7:term]) => `(tactic| repeat (first | array_get_dec | ((with_reducible apply a_is0 $a0); rfl) | ((with_reducible apply a2_id); exact $a0) | ((with_reducible apply ao_id); exact $a0) | (with_reducible exact $a0) | ((with_reducible apply a_is0 $a1); rfl) | ((with_reducible apply a2_id); exact $a1) | ((with_reducible apply ao_id); exact $a1) | (with_reducible exact $a1) | ((with_reducible apply a_is0 $a2); rfl) | ((with_reducible apply a2_id); exact $a2) | ((with_reducible apply ao_id); exact $a2) | (with_reducible exact $a2) | ((with_reducible apply a_is0 $a3); rfl) | ((with_reducible apply a2_id); exact $a3) | ((with_reducible apply ao_id); exact $a3) | (with_reducible exact $a3) | ((with_reducible apply a_is0 $a4); rfl) | ((with_reducible apply a2_id); exact $a4) | ((with_reducible apply ao_id); exact $a4) | (with_reducible exact $a4) | ((with_reducible apply a_is0 $a5); rfl) | ((with_reducible apply a2_id); exact $a5) | ((with_reducible apply ao_id); exact $a5) | (with_reducible exact $a5) | ((with_reducible apply a_is0 $a6); rfl) | ((with_reducible apply a2_id); exact $a6) | ((with_reducible apply ao_id); exact $a6) | (with_reducible exact $a6) | ((with_reducible apply a_is0 $a7); rfl) | ((with_reducible apply a2_id); exact $a7) | ((with_reducible apply ao_id); exact $a7) | (with_reducible exact $a7) | exact tb_absF rfl | exact tb_absT rfl | exact pv_absF rfl | exact pv_absT rfl | exact a2_absT rfl | intro _ | exact (false : Bool) | ((with_reducible apply a_ix); rfl) | ((with_reducible apply a_ixL); rfl) | (exact Nat.le_of_ble_eq_true rfl) | exact rfl))
theorem bent_ok : ∀ (n : Nat) (k : Nat) (d : D) (o : Ob), k < n → Pq d → d.depth ≤ 60 → Bag o → wf (F_l_bent n [.loc 0, .d d, .d (.int k)] [o]) fun r sto => ∃ e o', r = .v (.d e) ∧ sto = [o'] ∧ Pl e ∧ Bag o'
  | 0, k, d, o, hk, _, _, _ => by omega
  | n + 1, k, d, o, hk, hp, hd, hb => by
    show wf (M_l_bent (F_l_bent n) _ _) _
    unfold M_l_bent
    refine wf_fun ?_
    simp_all_arith
    refine wf_mono (take_ok hb (by decide) (by decide)) ?_
    rintro _ _ ⟨v, o, rfl, rfl, v0, v1, hb⟩
    simp_all_arith
    have hpl := pq_pl d hp
    have hn := pl_noT hpl
    have hs : SeqAt.shaped d = true := by
      unfold SeqAt.shaped
      rw [pq_lay d hp, Bool.true_and]
      exact decide_eq_true (by omega)
    have fin : ∀ (o : Ob) (hb : Bag o), True := fun _ _ => trivial
    apply ws_ifP
    · simp_arith! [a_neD rfl rfl hs (by decide)]
    all_goals intro h
    · simp only [Bool.and_eq_true, decide_eq_true_eq] at h
      obtain ⟨h1, h2, h3, h4⟩ := h
      cases d with
      | tuple ds =>
        obtain ⟨hl, hm⟩ := hp
        have hm := pqs_mem.mp hm
        rw [eqv_nilT] at h3
        have h3 : ds ≠ [] := by simpa using h3
        have h0 : 0 < ds.length := List.length_pos_iff.mpr h3
        have sub : ∀ {a b : Option Int} {x : D}, x ∈ cutL ds a b → Pl x := fun h => pq_pl _ (hm _ (cutL_sub h))
        simp_all_arith
        refine wf_mono (take_ok hb (by show (0 : Int) < (ds.length : Int); omega) (by show (ds.length : Int) < _; omega)) ?_
        rintro _ _ ⟨at', o, rfl, rfl, a0, a1, hb⟩
        simp_all_arith
        apply ws_ifP
        · simp_arith!
        all_goals intro h5
        · apply ws_retP
          · simp_arith!
            refine a_addT (Nat.le_trans (Nat.add_le_add (cutL_len ..) (cutL_len ..)) (szl (by omega)))
          · refine ⟨_, o, rfl, rfl, ⟨?_, pls_mem.mpr fun x hx => ?_⟩, hb⟩
            · rw [List.length_append]
              exact Nat.le_trans (Nat.add_le_add (cutL_len ..) (cutL_len ..)) (by omega)
            · rcases List.mem_append.mp hx with hx | hx <;> exact sub hx
        refine ws_nil ?_
        refine ws_seq ?_
        apply ws_ifP
        · simp_arith!
        all_goals intro h6
        · apply ws_retP
          · simp_arith!
            · refine a_addT (Nat.le_trans (Nat.add_le_add (cutL_len ..) (cutL_len ..)) (szl (by omega)))
            simp_arith!
            refine a_addT ?_
            rw [List.length_append]
            exact Nat.le_trans (Nat.add_le_add (Nat.add_le_add (cutL_len ..) (cutL_len ..)) (cutL_len ..)) (szl (by omega))
          · refine ⟨_, o, rfl, rfl, ⟨?_, pls_mem.mpr fun x hx => ?_⟩, hb⟩
            · rw [List.length_append, List.length_append]
              exact Nat.le_trans (Nat.add_le_add (Nat.add_le_add (cutL_len ..) (cutL_len ..)) (cutL_len ..)) (by omega)
            · rcases List.mem_append.mp hx with hx | hx
              · rcases List.mem_append.mp hx with hx | hx <;> exact sub hx
              · exact sub hx
        refine ws_nil ?_
        simp_all_arith
        obtain ⟨x, e, hx, _⟩ := atI_nat' (xs := ds) a0 a1
        refine wp_ixT e ?_
        obtain ⟨k', rfl⟩ : ∃ k', k = k' + 1 := ⟨k - 1, by have : (0 : Int) < (k : Int) := h1; omega⟩
        simp_all_arith
        rw [show (((k' + 1 : Nat) : Int) - 1) = (k' : Int) by omega]
        have hdx : x.depth ≤ 60 := by
          have := depth_mem hx
          rw [PyData.depth] at hd
          omega
        refine wf_mono (bent_ok n k' x o (by omega) (hm x hx) hdx hb) ?_
        rintro _ _ ⟨e, o, rfl, rfl, pe, hb⟩
        simp_all_arith
        refine wp_addT ?_ ?_
        · simp_all_arith
          refine wp_addT ?_ ?_
          · simp_all_arith
            refine ⟨_, o, rfl, rfl, ⟨?_, pls_mem.mpr fun x hx => ?_⟩, hb⟩
            · rw [List.length_append, List.length_append]
              exact Nat.le_trans (Nat.add_le_add (Nat.add_le_add_right (cutL_len ..) _) (cutL_len ..)) (by simp only [List.length_cons, List.length_nil]; omega)
            · rcases List.mem_append.mp hx with hx | hx
              · rcases List.mem_append.mp hx with hx | hx
                · exact sub hx
                · rw [List.mem_singleton.mp hx]; exact pe
              · exact sub hx
          · rw [List.length_append]
            exact Nat.le_trans (Nat.add_le_add (Nat.add_le_add_right (cutL_len ..) _) (cutL_len ..)) (szl (by simp only [List.length_cons, List.length_nil]; omega))
        · exact Nat.le_trans (Nat.add_le_add_right (cutL_len ..) _) (szl (by simp only [List.length_cons, List.length_nil]; omega))
      | _ => cases h2
    refine ws_nil ?_
    refine ws_seq ?_
    apply ws_ifP
    · simp_arith! [l_is_int_is hn]
    all_goals intro h7
    · simp only [Bool.and_eq_true, decide_eq_true_eq] at h7
      cases d with
      | int i =>
        simp_all_arith
        refine wf_mono (some_ok hb (by simp) (by decide)) ?_
        rintro _ _ ⟨x, o, rfl, rfl, hx, hb⟩
        simp_all_arith
        have hx' : ∃ j : Int, x = .int j := by
          simp only [List.mem_cons, List.not_mem_nil, or_false] at hx
          rcases hx with rfl | rfl | rfl | rfl <;> exact ⟨_, rfl⟩
        obtain ⟨j, rfl⟩ := hx'
        simp_all_arith
        exact ⟨_, o, rfl, rfl, trivial, hb⟩
      | bool b => cases h7.1
      | _ => cases h7.1
    refine ws_nil ?_
    simp_all_arith
    refine wp_isi hn ?_
    simp_all_arith
    have all : ∀ y x : D, Pl y → x ∈ [PyData.none, .bool true, .str (Str.ofString ""), .str (Str.ofString "a"), .int 7, .int (-1), .tuple [], .tuple [.int 0], y] → Pl x := by
      intro y x hy hx
      simp only [List.mem_cons, List.not_mem_nil, or_false] at hx
      rcases hx with rfl | rfl | rfl | rfl | rfl | rfl | rfl | rfl | rfl
      · trivial
      · trivial
      · exact ⟨⟨by decide +kernel, by decide +kernel⟩, by decide +kernel⟩
      · exact ⟨⟨by decide +kernel, by decide +kernel⟩, by decide +kernel⟩
      · trivial
      · trivial
      · exact ⟨by decide, trivial⟩
      · exact ⟨by decide, trivial, trivial⟩
      · exact hy
    refine if_t (fun ht => ?_) fun ht => ?_
    · cases d with
      | tuple ds =>
        simp_all_arith
        refine wf_mono (some_ok hb (by simp) (by simp)) ?_
        rintro _ _ ⟨x, o, rfl, rfl, hx, hb⟩
        simp_all_arith
        exact ⟨x, o, rfl, rfl, all (.list ds) x ⟨Nat.le_trans hp.1 (by decide), hpl.2⟩ hx, hb⟩
      | _ => cases ht
    · simp_all_arith
      refine wf_mono (some_ok hb (by simp) (by decide)) ?_
      rintro _ _ ⟨x, o, rfl, rfl, hx, hb⟩
      simp_all_arith
      exact ⟨x, o, rfl, rfl, all (.str (Str.ofString "zz")) x ⟨⟨by decide +kernel, by decide +kernel⟩, by decide +kernel⟩ hx, hb⟩
theorem odd_ok {o : Ob} (hb : Bag o) : wf (F_l_odd [.loc 0] [o]) fun r sto => ∃ e o', r = .v (.d e) ∧ sto = [o'] ∧ Pl e ∧ Bag o' := by
  unfold F_l_odd
  refine wf_fun ?_
  simp_all_arith
  refine wf_mono (some_ok hb (by simp) (by decide)) ?_
  rintro _ _ ⟨x, o, rfl, rfl, hx, hb⟩
  simp_all_arith
  refine ⟨x, o, rfl, rfl, ?_, hb⟩
  simp only [List.mem_cons, List.not_mem_nil, or_false] at hx
  have hA : Pl (.str (Str.ofString "A")) := ⟨⟨by decide +kernel, by decide +kernel⟩, by decide +kernel⟩
  have ha : Pl (.str (Str.ofString "a")) := ⟨⟨by decide +kernel, by decide +kernel⟩, by decide +kernel⟩
  rcases hx with rfl | rfl | rfl | rfl | rfl | rfl | rfl | rfl | rfl | rfl | rfl | rfl | rfl | rfl | rfl <;> first | trivial | exact hA | exact ⟨by decide, trivial⟩ | exact ⟨by decide, ha, trivial, trivial⟩ | exact ⟨by decide, trivial, trivial⟩ | exact ⟨by decide, trivial, trivial, trivial⟩ | exact rfl | exact ⟨by decide, ⟨by decide, trivial⟩, trivial⟩ | exact ⟨by decide, ⟨by decide, trivial, trivial, trivial⟩, trivial⟩
end Lk01
set_option Elab.async false
set_option linter.all false
set_option maxRecDepth 100000
set_option maxHeartbeats 4000000
namespace Lk01
open PySem PySem.Spec PyProof.Rows L2 RA
local macro_rules
  | `(tactic| contradiction) => `(tactic| (first | decide +kernel | omega | assumption | exact sh_shaped (by assumption) | exact ⟨by omega, by omega⟩ | exact Or.inl (by decide) | exact Or.inr (by decide) | exact szl (by omega) | exact szl (by simp only [List.length_map, List.length_append, List.length_cons, List.length_nil]; omega)))
local macro_rules
  | `(tactic| infer_instance) => `(tactic| (first | (with_reducible (first | refine wp_C ?_ | refine wp_m2 ?_ | refine wp_m1 ?_ | refine wp_B ?_ | refine isB_ok ?_ | refine if_tt ?_ | refine if_ff ?_ | refine isV_v ?_ | refine isO_o ?_ | refine ws_seq ?_ | refine ws_nil ?_ | refine wp_nil ?_ | refine wp_cons ?_ | refine wp_call ?_ | refine wp_callF ?_ | refine ws_if ?_ | refine ws_ret ?_ | refine ws_set ?_ | refine toSl_d ?_ | refine wp_tup ?_ | refine wp_lst ?_ | refine wp_frz ?_ | refine isFr_l ?_ | refine isFr_k ?_ | refine wp_and ?_ | refine wp_or ?_ | refine wp_not ?_ | refine wp_andV ?_ | refine wp_orV ?_ | refine wp_notV ?_ | refine wp_if ?_ | refine wp_eqI ?_ | refine wp_neI ?_ | refine wp_neB ?_ | refine wp_eqB ?_ | refine wp_addI ?_ | refine wp_subI ?_ | refine wp_ltI ?_ | refine wp_leI ?_ | refine wp_gtI ?_ | refine wp_geI ?_ | refine wp_int ?_ | refine wp_opI ?_ | refine wp_neg ?_ | refine wp_chain ?_ | refine ws_expr ?_ | refine ws_retF ?_ | refine ws_own ?_ | refine ws_loc ?_ | refine ws_frz ?_ | refine ws_unp ?_ | refine ws_FF ?_ | refine ws_FV ?_ | refine ws_VF ?_ | refine ws_par ?_ | refine ws_store ?_ | refine ws_augS ?_ | refine ws_storeK ?_ | refine ws_forK ?_ | refine wp_oN ?_ | refine wp_oS ?_ | refine isI_ok ?_ | refine wp_sl ?_ | refine wp_mt ?_ | refine wp_mt0 ?_ | refine wp_src ?_ | refine wp_items ?_ | refine wp_itemsA ?_ | refine wp_enum ?_ | refine wp_zip ?_ | refine wp_yes ?_ | refine wp_kget ?_ | refine wp_enumL ?_ | refine wp_itemL ?_ | refine wp_itemT ?_)) | ((with_reducible apply wp_V); rfl) | ((with_reducible apply ws_aug); rfl) | ((with_reducible apply wp_isi); rfl) | ((with_reducible apply wp_O); rfl) | ((with_reducible apply wp_d); rfl) | ((with_reducible apply wp_l); rfl) | ((with_reducible apply wp_o); rfl) | ((with_reducible apply wp_f); rfl)  | (focus ((with_reducible refine wp_eqS ?_ ?_ ?_); rotate_left; contradiction; contradiction)) | (focus ((with_reducible refine wp_neS ?_ ?_ ?_); rotate_left; contradiction; contradiction)) | (focus ((with_reducible refine wp_mod ?_ ?_); rotate_left; contradiction)) | (focus ((with_reducible refine wp_fdiv ?_ ?_ ?_); rotate_left; contradiction; contradiction)) | (focus ((with_reducible refine wp_mul ?_ ?_); rotate_left; contradiction)) | (focus ((with_reducible refine wp_powI ?_ ?_); rotate_left; contradiction)) | (focus ((with_reducible refine wp_addL ?_ ?_); rotate_left; contradiction)) | (focus ((with_reducible refine wp_addT ?_ ?_); rotate_left; contradiction)) | (focus ((with_reducible refine wp_range1 ?_ ?_); rotate_left; contradiction)) | ((with_reducible apply isDs_ok); rfl; exact Nat.le_of_ble_eq_true rfl) | ((with_reducible apply isAt_ok); rfl) | ((with_reducible apply isMt_ok); rfl) | (focus ((with_reducible apply wp_app); rfl; rotate_left; first | contradiction | rotate_left)) | (focus ((with_reducible apply wp_extT); rfl; rotate_left; first | contradiction | rotate_left)) | (focus ((with_reducible apply wp_extA); rfl; rfl; rotate_left; first | contradiction | rotate_left)) | refine wp_ok ?_))
local macro_rules
  | `(tactic| simp_arith) => `(tactic| repeat infer_instance)
local macro_rules
  | `(tactic| simp_all_arith) => `(tactic| repeat (first | (fail_if_success (with_reducible refine ws_if ?_)); infer_instance))
local macro_rules
  | `(tactic| simp_arith [$a0:term]) => `(tactic| repeat (first | (with_reducible (first | refine wp_C ?_ | refine wp_m2 ?_ | refine wp_m1 ?_ | refine wp_B ?_ | refine isB_ok ?_ | refine if_tt ?_ | refine if_ff ?_ | refine isV_v ?_ | refine isO_o ?_ | refine ws_seq ?_ | refine ws_nil ?_ | refine wp_nil ?_ | refine wp_cons ?_ | refine wp_call ?_ | refine wp_callF ?_ | refine ws_if ?_ | refine ws_ret ?_ | refine ws_set ?_ | refine toSl_d ?_ | refine wp_tup ?_ | refine wp_lst ?_ | refine wp_frz ?_ | refine isFr_l ?_ | refine isFr_k ?_ | refine wp_and ?_ | refine wp_or ?_ | refine wp_not ?_ | refine wp_andV ?_ | refine wp_orV ?_ | refine wp_notV ?_ | refine wp_if ?_ | refine wp_eqI ?_ | refine wp_neI ?_ | refine wp_neB ?_ | refine wp_eqB ?_ | refine wp_addI ?_ | refine wp_subI ?_ | refine wp_ltI ?_ | refine wp_leI ?_ | refine wp_gtI ?_ | refine wp_geI ?_ | refine wp_int ?_ | refine wp_opI ?_ | refine wp_neg ?_ | refine wp_chain ?_ | refine ws_expr ?_ | refine ws_retF ?_ | refine ws_own ?_ | refine ws_loc ?_ | refine ws_frz ?_ | refine ws_unp ?_ | refine ws_FF ?_ | refine ws_FV ?_ | refine ws_VF ?_ | refine ws_par ?_ | refine ws_store ?_ | refine ws_augS ?_ | refine ws_storeK ?_ | refine ws_forK ?_ | refine wp_oN ?_ | refine wp_oS ?_ | refine isI_ok ?_ | refine wp_sl ?_ | refine wp_mt ?_ | refine wp_mt0 ?_ | refine wp_src ?_ | refine wp_items ?_ | refine wp_itemsA ?_ | refine wp_enum ?_ | refine wp_zip ?_ | refine wp_yes ?_ | refine wp_kget ?_ | refine wp_enumL ?_ | refine wp_itemL ?_ | refine wp_itemT ?_)) | ((with_reducible apply wp_is0 $a0); rfl) | infer_instance))
local macro_rules
  | `(tactic| simp_arith [$a0:term, $a1:term]) => `(tactic| repeat (first | (with_reducible (first | refine wp_C ?_ | refine wp_m2 ?_ | refine wp_m1 ?_ | refine wp_B ?_ | refine isB_ok ?_ | refine if_tt ?_ | refine if_ff ?_ | refine isV_v ?_ | refine isO_o ?_ | refine ws_seq ?_ | refine ws_nil ?_ | refine wp_nil ?_ | refine wp_cons ?_ | refine wp_call ?_ | refine wp_callF ?_ | refine ws_if ?_ | refine ws_ret ?_ | refine ws_set ?_ | refine toSl_d ?_ | refine wp_tup ?_ | refine wp_lst ?_ | refine wp_frz ?_ | refine isFr_l ?_ | refine isFr_k ?_ | refine wp_and ?_ | refine wp_or ?_ | refine wp_not ?_ | refine wp_andV ?_ | refine wp_orV ?_ | refine wp_notV ?_ | refine wp_if ?_ | refine wp_eqI ?_ | refine wp_neI ?_ | refine wp_neB ?_ | refine wp_eqB ?_ | refine wp_addI ?_ | refine wp_subI ?_ | refine wp_ltI ?_ | refine wp_leI ?_ | refine wp_gtI ?_ | refine wp_geI ?_ | refine wp_int ?_ | refine wp_opI ?_ | refine wp_neg ?_ | refine wp_chain ?_ | refine ws_expr ?_ | refine ws_retF ?_ | refine ws_own ?_ | refine ws_loc ?_ | refine ws_frz ?_ | refine ws_unp ?_ | refine ws_FF ?_ | refine ws_FV ?_ | refine ws_VF ?_ | refine ws_par ?_ | refine ws_store ?_ | refine ws_augS ?_ | refine ws_storeK ?_ | refine ws_forK ?_ | refine wp_oN ?_ | refine wp_oS ?_ | refine isI_ok ?_ | refine wp_sl ?_ | refine wp_mt ?_ | refine wp_mt0 ?_ | refine wp_src ?_ | refine wp_items ?_ | refine wp_itemsA ?_ | refine wp_enum ?_ | refine wp_zip ?_ | refine wp_yes ?_ | refine wp_kget ?_ | refine wp_enumL ?_ | refine wp_itemL ?_ | refine wp_itemT ?_)) | ((with_reducible apply wp_is0 $a0); rfl) | ((with_reducible apply wp_is0 $a1); rfl) | infer_instance))
local macro_rules
  | `(tactic| simp_arith [$a0:term, $a1:term, $a2:term]) => `(tactic| repeat (first | (with_reducible (first | refine wp_C ?_ | refine wp_m2 ?_ | refine wp_m1 ?_ | refine wp_B ?_ | refine isB_ok ?_ | refine if_tt ?_ | refine if_ff ?_ | refine isV_v ?_ | refine isO_o ?_ | refine ws_seq ?_ | refine ws_nil ?_ | refine wp_nil ?_ | refine wp_cons ?_ | refine wp_call ?_ | refine wp_callF ?_ | refine ws_if ?_ | refine ws_ret ?_ | refine ws_set ?_ | refine toSl_d ?_ | refine wp_tup ?_ | refine wp_lst ?_ | refine wp_frz ?_ | refine isFr_l ?_ | refine isFr_k ?_ | refine wp_and ?_ | refine wp_or ?_ | refine wp_not ?_ | refine wp_andV ?_ | refine wp_orV ?_ | refine wp_notV ?_ | refine wp_if ?_ | refine wp_eqI ?_ | refine wp_neI ?_ | refine wp_neB ?_ | refine wp_eqB ?_ | refine wp_addI ?_ | refine wp_subI ?_ | refine wp_ltI ?_ | refine wp_leI ?_ | refine wp_gtI ?_ | refine wp_geI ?_ | refine wp_int ?_ | refine wp_opI ?_ | refine wp_neg ?_ | refine wp_chain ?_ | refine ws_expr ?_ | refine ws_retF ?_ | refine ws_own ?_ | refine ws_loc ?_ | refine ws_frz ?_ | refine ws_unp ?_ | refine ws_FF ?_ | refine ws_FV ?_ | refine ws_VF ?_ | refine ws_par ?_ | refine ws_store ?_ | refine ws_augS ?_ | refine ws_storeK ?_ | refine ws_forK ?_ | refine wp_oN ?_ | refine wp_oS ?_ | refine isI_ok ?_ | refine wp_sl ?_ | refine wp_mt ?_ | refine wp_mt0 ?_ | refine wp_src ?_ | refine wp_items ?_ | refine wp_itemsA ?_ | refine wp_enum ?_ | refine wp_zip ?_ | refine wp_yes ?_ | refine wp_kget ?_ | refine wp_enumL ?_ | refine wp_itemL ?_ | refine wp_itemT ?_)) | ((with_reducible apply wp_is0 $a0); rfl) | ((with_reducible apply wp_is0 $a1); rfl) | ((with_reducible apply wp_is0 $a2); rfl) | infer_instance))
local macro_rules
  | `(tactic| simp_arith [$a0:term, $a1:term, $a2:term, $a3:term]) => `(tactic| repeat (first | (with_reducible (first | refine wp_C ?_ | refine wp_m2 ?_ | refine wp_m1 ?_ | refine wp_B ?_ | refine isB_ok ?_ | refine if_tt ?_ | refine if_ff ?_ | refine isV_v ?_ | refine isO_o ?_ | refine ws_seq ?_ | refine ws_nil ?_ | refine wp_nil ?_ | refine wp_cons ?_ | refine wp_call ?_ | refine wp_callF ?_ | refine ws_if ?_ | refine ws_ret ?_ | refine ws_set ?_ | refine toSl_d ?_ | refine wp_tup ?_ | refine wp_lst ?_ | refine wp_frz ?_ | refine isFr_l ?_ | refine isFr_k ?_ | refine wp_and ?_ | refine wp_or ?_ | refine wp_not ?_ | refine wp_andV ?_ | refine wp_orV ?_ | refine wp_notV ?_ | refine wp_if ?_ | refine wp_eqI ?_ | refine wp_neI ?_ | refine wp_neB ?_ | refine wp_eqB ?_ | refine wp_addI ?_ | refine wp_subI ?_ | refine wp_ltI ?_ | refine wp_leI ?_ | refine wp_gtI ?_ | refine wp_geI ?_ | refine wp_int ?_ | refine wp_opI ?_ | refine wp_neg ?_ | refine wp_chain ?_ | refine ws_expr ?_ | refine ws_retF ?_ | refine ws_own ?_ | refine ws_loc ?_ | refine ws_frz ?_ | refine ws_unp ?_ | refine ws_FF ?_ | refine ws_FV ?_ | refine ws_VF ?_ | refine ws_par ?_ | refine ws_store ?_ | refine ws_augS ?_ | refine ws_storeK ?_ | refine ws_forK ?_ | refine wp_oN ?_ | refine wp_oS ?_ | refine isI_ok ?_ | refine wp_sl ?_ | refine wp_mt ?_ | refine wp_mt0 ?_ | refine wp_src ?_ | refine wp_items ?_ | refine wp_itemsA ?_ | refine wp_enum ?_ | refine wp_zip ?_ | refine wp_yes ?_ | refine wp_kget ?_ | refine wp_enumL ?_ | refine wp_itemL ?_ | refine wp_itemT ?_)) | ((with_reducible apply wp_is0 $a0); rfl) | ((with_reducible apply wp_is0 $a1); rfl) | ((with_reducible apply wp_is0 $a2); rfl) | ((with_reducible apply wp_is0 $a3); rfl) | infer_instance))
local macro_rules
  | `(tactic| simp_arith [$a0:term, $a1:term, $a2:term, $a3:term, $a4:term]) => `(tactic| repeat (first | (with_reducible (first | refine wp_C ?_ | refine wp_m2 ?_ | refine wp_m1 ?_ | refine wp_B ?_ | refine isB_ok ?_ | refine if_tt ?_ | refine if_ff ?_ | refine isV_v ?_ | refine isO_o ?_ | refine ws_seq ?_ | refine ws_nil ?_ | refine wp_nil ?_ | refine wp_cons ?_ | refine wp_call ?_ | refine wp_callF ?_ | refine ws_if ?_ | refine ws_ret ?_ | refine ws_set ?_ | refine toSl_d ?_ | refine wp_tup ?_ | refine wp_lst ?_ | refine wp_frz ?_ | refine isFr_l ?_ | refine isFr_k ?_ | refine wp_and ?_ | refine wp_or ?_ | refine wp_not ?_ | refine wp_andV ?_ | refine wp_orV ?_ | refine wp_notV ?_ | refine wp_if ?_ | refine wp_eqI ?_ | refine wp_neI ?_ | refine wp_neB ?_ | refine wp_eqB ?_ | refine wp_addI ?_ | refine wp_subI ?_ | refine wp_ltI ?_ | refine wp_leI ?_ | refine wp_gtI ?_ | refine wp_geI ?_ | refine wp_int ?_ | refine wp_opI ?_ | refine wp_neg ?_ | refine wp_chain ?_ | refine ws_expr ?_ | refine ws_retF ?_ | refine ws_own ?_ | refine ws_loc ?_ | refine ws_frz ?_ | refine ws_unp ?_ | refine ws_FF ?_ | refine ws_FV ?_ | refine ws_VF ?_ | refine ws_par ?_ | refine ws_store ?_ | refine ws_augS ?_ | refine ws_storeK ?_ | refine ws_forK ?_ | refine wp_oN ?_ | refine wp_oS ?_ | refine isI_ok ?_ | refine wp_sl ?_ | refine wp_mt ?_ | refine wp_mt0 ?_ | refine wp_src ?_ | refine wp_items ?_ | refine wp_itemsA ?_ | refine wp_enum ?_ | refine wp_zip ?_ | refine wp_yes ?_ | refine wp_kget ?_ | refine wp_enumL ?_ | refine wp_itemL ?_ | refine wp_itemT ?_)) | ((with_reducible apply wp_is0 $a0); rfl) | ((with_reducible apply wp_is0 $a1); rfl) | ((with_reducible apply wp_is0 $a2); rfl) | ((with_reducible apply wp_is0 $a3); rfl) | ((with_reducible apply wp_is0 $a4); rfl) | infer_instance))
local macro_rules
  | `(tactic| simp_arith [$a0:term, $a1:term, $a2:term, $a3:term, $a4:term, $a5:term]) => `(tactic| repeat (first | (with_reducible (first | refine wp_C ?_ | refine wp_m2 ?_ | refine wp_m1 ?_ | refine wp_B ?_ | refine isB_ok ?_ | refine if_tt ?_ | refine if_ff ?_ | refine isV_v ?_ | refine isO_o ?_ | refine ws_seq ?_ | refine ws_nil ?_ | refine wp_nil ?_ | refine wp_cons ?_ | refine wp_call ?_ | refine wp_callF ?_ | refine ws_if ?_ | refine ws_ret ?_ | refine ws_set ?_ | refine toSl_d ?_ | refine wp_tup ?_ | refine wp_lst ?_ | refine wp_frz ?_ | refine isFr_l ?_ | refine isFr_k ?_ | refine wp_and ?_ | refine wp_or ?_ | refine wp_not ?_ | refine wp_andV ?_ | refine wp_orV ?_ | refine wp_notV ?_ | refine wp_if ?_ | refine wp_eqI ?_ | refine wp_neI ?_ | refine wp_neB ?_ | refine wp_eqB ?_ | refine wp_addI ?_ | refine wp_subI ?_ | refine wp_ltI ?_ | refine wp_leI ?_ | refine wp_gtI ?_ | refine wp_geI ?_ | refine wp_int ?_ | refine wp_opI ?_ | refine wp_neg ?_ | refine wp_chain ?_ | refine ws_expr ?_ | refine ws_retF ?_ | refine ws_own ?_ | refine ws_loc ?_ | refine ws_frz ?_ | refine ws_unp ?_ | refine ws_FF ?_ | refine ws_FV ?_ | refine ws_VF ?_ | refine ws_par ?_ | refine ws_store ?_ | refine ws_augS ?_ | refine ws_storeK ?_ | refine ws_forK ?_ | refine wp_oN ?_ | refine wp_oS ?_ | refine isI_ok ?_ | refine wp_sl ?_ | refine wp_mt ?_ | refine wp_mt0 ?_ | refine wp_src ?_ | refine wp_items ?_ | refine wp_itemsA ?_ | refine wp_enum ?_ | refine wp_zip ?_ | refine wp_yes ?_ | refine wp_kget ?_ | refine wp_enumL ?_ | refine wp_itemL ?_ | refine wp_itemT ?_)) | ((with_reducible apply wp_is0 $a0); rfl) | ((with_reducible apply wp_is0 $a1); rfl) | ((with_reducible apply wp_is0 $a2); rfl) | ((with_reducible apply wp_is0 $a3); rfl) | ((with_reducible apply wp_is0 $a4); rfl) | ((with_reducible apply wp_is0 $a5); rfl) | infer_instance))
local macro_rules
  | `(tactic| simp_arith [$a0:term, $a1:term, $a2:term, $a3:term, $a4:term, $a5:term, $a6:term]) => `(tactic| repeat (first | (with_reducible (first | refine wp_C ?_ | refine wp_m2 ?_ | refine wp_m1 ?_ | refine wp_B ?_ | refine isB_ok ?_ | refine if_tt ?_ | refine if_ff ?_ | refine isV_v ?_ | refine isO_o ?_ | refine ws_seq ?_ | refine ws_nil ?_ | refine wp_nil ?_ | refine wp_cons ?_ | refine wp_call ?_ | refine wp_callF ?_ | refine ws_if ?_ | refine ws_ret ?_ | refine ws_set ?_ | refine toSl_d ?_ | refine wp_tup ?_ | refine wp_lst ?_ | refine wp_frz ?_ | refine isFr_l ?_ | refine isFr_k ?_ | refine wp_and ?_ | refine wp_or ?_ | refine wp_not ?_ | refine wp_andV ?_ | refine wp_orV ?_ | refine wp_notV ?_ | refine wp_if ?_ | refine wp_eqI ?_ | refine wp_neI ?_ | refine wp_neB ?_ | refine wp_eqB ?_ | refine wp_addI ?_ | refine wp_subI ?_ | refine wp_ltI ?_ | refine wp_leI ?_ | refine wp_gtI ?_ | refine wp_geI ?_ | refine wp_int ?_ | refine wp_opI ?_ | refine wp_neg ?_ | refine wp_chain ?_ | refine ws_expr ?_ | refine ws_retF ?_ | refine ws_own ?_ | refine ws_loc ?_ | refine ws_frz ?_ | refine ws_unp ?_ | refine ws_FF ?_ | refine ws_FV ?_ | refine ws_VF ?_ | refine ws_par ?_ | refine ws_store ?_ | refine ws_augS ?_ | refine ws_storeK ?_ | refine ws_forK ?_ | refine wp_oN ?_ | refine wp_oS ?_ | refine isI_ok ?_ | refine wp_sl ?_ | refine wp_mt ?_ | refine wp_mt0 ?_ | refine wp_src ?_ | refine wp_items ?_ | refine wp_itemsA ?_ | refine wp_enum ?_ | refine wp_zip ?_ | refine wp_yes ?_ | refine wp_kget ?_ | refine wp_enumL ?_ | refine wp_itemL ?_ | refine wp_itemT ?_)) | ((with_reducible apply wp_is0 $a0); rfl) | ((with_reducible apply wp_is0 $a1); rfl) | ((with_reducible apply wp_is0 $a2); rfl) | ((with_reducible apply wp_is0 $a3); rfl) | ((with_reducible apply wp_is0 $a4); rfl) | ((with_reducible apply wp_is0 $a5); rfl) | ((with_reducible apply wp_is0 $a6); rfl) | infer_instance))
local macro_rules
  | `(tactic| simp_arith [$a0:term, $a1:term, $a2:term, $a3:term, $a4:term, $a5:term, $a6:term, $a7:term]) => `(tactic| repeat (first | (with_reducible (first | refine wp_C ?_ | refine wp_m2 ?_ | refine wp_m1 ?_ | refine wp_B ?_ | refine isB_ok ?_ | refine if_tt ?_ | refine if_ff ?_ | refine isV_v ?_ | refine isO_o ?_ | refine ws_seq ?_ | refine ws_nil ?_ | refine wp_nil ?_ | refine wp_cons ?_ | refine wp_call ?_ | refine wp_callF ?_ | refine ws_if ?_ | refine ws_ret ?_ | refine ws_set ?_ | refine toSl_d ?_ | refine wp_tup ?_ | refine wp_lst ?_ | refine wp_frz ?_ | refine isFr_l ?_ | refine isFr_k ?_ | refine wp_and ?_ | refine wp_or ?_ | refine wp_not ?_ | refine wp_andV ?_ | refine wp_orV ?_ | refine wp_notV ?_ | refine wp_if ?_ | refine wp_eqI ?_ | refine wp_neI ?_ | refine wp_neB ?_ | refine wp_eqB ?_ | refine wp_addI ?_ | refine wp_subI ?_ | refine wp_ltI ?_ | refine wp_leI ?_ | refine wp_gtI ?_ | refine wp_geI ?_ | refine wp_int ?_ | refine wp_opI ?_ | refine wp_neg ?_ | refine wp_chain ?_ | refine ws_expr ?_ | refine ws_retF ?_ | refine ws_own ?_ | refine ws_loc ?_ | refine ws_frz ?_ | refine ws_unp ?_ | refine ws_FF ?_ | refine ws_FV ?_ | refine ws_VF ?_ | refine ws_par ?_ | refine ws_store ?_ | refine ws_augS ?_ | refine ws_storeK ?_ | refine ws_forK ?_ | refine wp_oN ?_ | refine wp_oS ?_ | refine isI_ok ?_ | refine wp_sl ?_ | refine wp_mt ?_ | refine wp_mt0 ?_ | refine wp_src ?_ | refine wp_items ?_ | refine wp_itemsA ?_ | refine wp_enum ?_ | refine wp_zip ?_ | refine wp_yes ?_ | refine wp_kget ?_ | refine wp_enumL ?_ | refine wp_itemL ?_ | refine wp_itemT ?_)) | ((with_reducible apply wp_is0 $a0); rfl) | ((with_reducible apply wp_is0 $a1); rfl) | ((with_reducible apply wp_is0 $a2); rfl) | ((with_reducible apply wp_is0 $a3); rfl) | ((with_reducible apply wp_is0 $a4); rfl) | ((with_reducible apply wp_is0 $a5); rfl) | ((with_reducible apply wp_is0 $a6); rfl) | ((with_reducible apply wp_is0 $a7); rfl) | infer_instance))
local macro_rules
  | `(tactic| array_get_dec) => `(tactic| (first | (with_reducible (first | apply pv_C | apply pv_kt | apply pl_nil | apply tb_yes | apply pi_N | apply po_dnew | apply pv_m2 | apply pv_m1 | apply pl_cons | apply pv_call | apply po_callF | apply pv_frzL | apply tb_B | apply tb_not | apply pv_notV | apply pi_S | apply pv_sl | apply pj_itemsA | apply pj_items | apply pj_enum | apply pj_src | apply pj_zip | apply pv_tup | apply po_lst | apply a_eqI | apply a_neI | apply a_eqB | apply a_neB | apply a_addI | apply a_subI | apply a_leI | apply a_ltI | apply a_gtI | apply a_geI | apply a_ltS | apply a_lenL | apply a_lenT | apply a_tuple | apply a_tupT | apply a_listL | apply a_listT | apply a_intB | apply a_intI | apply a_slL | apply a_slT | apply a_isN | apply a_notN | apply aj_lst | apply aj_tup | apply aj_kt | apply aj_frz | apply aj_enumL | apply a_all | apply a_any | apply tb_and | apply tb_or | apply pv_andV | apply pv_orV | apply pv_chain | apply pv_ifD)) | ((with_reducible apply pv_d); rfl) | ((with_reducible apply pv_o); rfl) | ((with_reducible apply pv_f); rfl) | ((with_reducible apply pv_l); rfl) | ((with_reducible apply a_isi); first | rfl | assumption) | (focus ((with_reducible apply a_eqS); contradiction; contradiction)) | (focus ((with_reducible apply a_neS); contradiction; contradiction)) | (focus ((with_reducible apply a_addL); contradiction)) | (focus ((with_reducible apply a_addT); contradiction)) | (focus ((with_reducible apply a_lenS); contradiction)) | (focus ((with_reducible apply aj_str); contradiction)) | (focus ((with_reducible apply aj_range1); contradiction)) | (focus ((with_reducible apply aj_zipT); contradiction)) | (focus ((with_reducible apply aj_zipL); contradiction))))
local macro_rules
  | `(tactic| simp_arith!) => `(tactic| repeat (first | array_get_dec | exact tb_absF rfl | exact tb_absT rfl | exact pv_absF rfl | exact pv_absT rfl | exact a2_absT rfl | intro _ | exact (false : Bool) | ((with_reducible apply a_ix); rfl) | ((with_reducible apply a_ixL); rfl) | (exact Nat.le_of_ble_eq_true rfl) | exact rfl))
local macro_rules
  | `(tactic| simp_arith! [$a0:term]) => `(tactic| repeat (first | array_get_dec | ((with_reducible apply a_is0 $a0); rfl) | ((with_reducible apply a2_id); exact $a0) | ((with_reducible apply ao_id); exact $a0) | (with_reducible exact $a0) | exact tb_absF rfl | exact tb_absT rfl | exact pv_absF rfl | exact pv_absT rfl | exact a2_absT rfl | intro _ | exact (false : Bool) | ((with_reducible apply a_ix); rfl) | ((with_reducible apply a_ixL); rfl) | (exact Nat.le_of_ble_eq_true rfl) | exact rfl))
local macro_rules
  | `(tactic| simp_arith! [$a0:term, $a1:term]) => `(tactic| repeat (first | array_get_dec | ((with_reducible apply a_is0 $a0); rfl) | ((with_reducible apply a2_id); exact $a0) | ((with_reducible apply ao_id); exact $a0) | (with_reducible exact $a0) | ((with_reducible apply a_is0 $a1); rfl) | ((with_reducible apply a2_id); exact $a1) | ((with_reducible apply ao_id); exact $a1) | (with_reducible exact $a1) | exact tb_absF rfl | exact tb_absT rfl | exact pv_absF rfl | exact pv_absT rfl | exact a2_absT rfl | intro _ | exact (false : Bool) | ((with_reducible apply a_ix); rfl) | ((with_reducible apply a_ixL); rfl) | (exact Nat.le_of_ble_eq_true rfl) | exact rfl))
local macro_rules
  | `(tactic| simp_arith! [$a0:term, $a1:term, $a2:term]) => `(tactic| repeat (first | array_get_dec | ((with_reducible apply a_is0 $a0); rfl) | ((with_reducible apply a2_id); exact $a0) | ((with_reducible apply ao_id); exact $a0) | (with_reducible exact $a0) | ((with_reducible apply a_is0 $a1); rfl) | ((with_reducible apply a2_id); exact $a1) | ((with_reducible apply ao_id); exact $a1) | (with_reducible exact $a1) | ((with_reducible apply a_is0 $a2); rfl) | ((with_reducible apply a2_id); exact $a2) | ((with_reducible apply ao_id); exact $a2) | (with_reducible exact $a2) | exact tb_absF rfl | exact tb_absT rfl | exact pv_absF rfl | exact pv_absT rfl | exact a2_absT rfl | intro _ | exact (false : Bool) | ((with_reducible apply a_ix); rfl) | ((with_reducible apply a_ixL); rfl) | (exact Nat.le_of_ble_eq_true rfl) | exact rfl))
local macro_rules
  | `(tactic| simp_arith! [$a0:term, $a1:term, $a2:term, $a3:term]) => `(tactic| repeat (first | array_get_dec | ((with_reducible apply a_is0 $a0); rfl) | ((with_reducible apply a2_id); exact $a0) | ((with_reducible apply ao_id); exact $a0) | (with_reducible exact $a0) | ((with_reducible apply a_is0 $a1); rfl) | ((with_reducible apply a2_id); exact $a1) | ((with_reducible apply ao_id); exact $a1) | (with_reducible exact $a1) | ((with_reducible apply a_is0 $a2); rfl) | ((with_reducible apply a2_id); exact $a2) | ((with_reducible apply ao_id); exact $a2) | (with_reducible exact $a2) | ((with_reducible apply a_is0 $a3); rfl) | ((with_reducible apply a2_id); exact $a3) | ((with_reducible apply ao_id); exact $a3) | (with_reducible exact $a3) | exact tb_absF rfl | exact tb_absT rfl | exact pv_absF rfl | exact pv_absT rfl | exact a2_absT rfl | intro _ | exact (false : Bool) | ((with_reducible apply a_ix); rfl) | ((with_reducible apply a_ixL); rfl) | (exact Nat.le_of_ble_eq_true rfl) | exact rfl))
local macro_rules
  | `(tactic| simp_arith! [$a0:term, $a1:term, $a2:term, $a3:term, $a4:term]) => `(tactic| repeat (first | array_get_dec | ((with_reducible apply a_is0 $a0); rfl) | ((with_reducible apply a2_id); exact $a0) | ((with_reducible apply ao_id); exact $a0) | (with_reducible exact $a0) | ((with_reducible apply a_is0 $a1); rfl) | ((with_reducible apply a2_id); exact $a1) | ((with_reducible apply ao_id); exact $a1) | (with_reducible exact $a1) | ((with_reducible apply a_is0 $a2); rfl) | ((with_reducible apply a2_id); exact $a2) | ((with_reducible apply ao_id); exact $a2) | (with_reducible exact $a2) | ((with_reducible apply a_is0 $a3); rfl) | ((with_reducible apply a2_id); exact $a3) | ((with_reducible apply ao_id); exact $a3) | (with_reducible exact $a3) | ((with_reducible apply a_is0 $a4); rfl) | ((with_reducible apply a2_id); exact $a4) | ((with_reducible apply ao_id); exact $a4) | (with_reducible exact $a4) | exact tb_absF rfl | exact tb_absT rfl | exact pv_absF rfl | exact pv_absT rfl | exact a2_absT rfl | intro _ | exact (false : Bool) | ((with_reducible apply a_ix); rfl) | ((with_reducible apply a_ixL); rfl) | (exact Nat.le_of_ble_eq_true rfl) | exact rfl))
local macro_rules
  | `(tactic| simp_arith! [$a0:term, $a1:term, $a2:term, $a3:term, $a4:term, $a5:term]) => `(tactic| repeat (first | array_get_dec | ((with_reducible apply a_is0 $a0); rfl) | ((with_reducible apply a2_id); exact $a0) | ((with_reducible apply ao_id); exact $a0) | (with_reducible exact $a0) | ((with_reducible apply a_is0 $a1); rfl) | ((with_reducible apply a2_id); exact $a1) | ((with_reducible apply ao_id); exact $a1) | (with_reducible exact $a1) | ((with_reducible apply a_is0 $a2); rfl) | ((with_reducible apply a2_id); exact $a2) | ((with_reducible apply ao_id); exact $a2) | (with_reducible exact $a2) | ((with_reducible apply a_is0 $a3); rfl) | ((with_reducible apply a2_id); exact $a3) | ((with_reducible apply ao_id); exact $a3) | (with_reducible exact $a3) | ((with_reducible apply a_is0 $a4); rfl) | ((with_reducible apply a2_id); exact $a4) | ((with_reducible apply ao_id); exact $a4) | (with_reducible exact $a4) | ((with_reducible apply a_is0 $a5); rfl) | ((with_reducible apply a2_id); exact $a5) | ((with_reducible apply ao_id); exact $a5) | (with_reducible exact $a5) | exact tb_absF rfl | exact tb_absT rfl | exact pv_absF rfl | exact pv_absT rfl | exact a2_absT rfl | intro _ | exact (false : Bool) | ((with_reducible apply a_ix); rfl) | ((with_reducible apply a_ixL); rfl) | (exact Nat.le_of_ble_eq_true rfl) | exact rfl))
local macro_rules
  | `(tactic| simp_arith! [$a0:term, $a1:term, $a2:term, $a3:term, $a4:term, $a5:term, $a6:term]) => `(tactic| repeat (first | array_get_dec | ((with_reducible apply a_is0 $a0); rfl) | ((with_reducible apply a2_id); exact $a0) | ((with_reducible apply ao_id); exact $a0) | (with_reducible exact $a0) | ((with_reducible apply a_is0 $a1); rfl) | ((with_reducible apply a2_id); exact $a1) | ((with_reducible apply ao_id); exact $a1) | (with_reducible exact $a1) | ((with_reducible apply a_is0 $a2); rfl) | ((with_reducible apply a2_id); exact $a2) | ((with_reducible apply ao_id); exact $a2) | (with_reducible exact $a2) | ((with_reducible apply a_is0 $a3); rfl) | ((with_reducible apply a2_id); exact $a3) | ((with_reducible apply ao_id); exact $a3) | (with_reducible exact $a3) | ((with_reducible apply a_is0 $a4); rfl) | ((with_reducible apply a2_id); exact $a4) | ((with_reducible apply ao_id); exact $a4) | (with_reducible exact $a4) | ((with_reducible apply a_is0 $a5); rfl) | ((with_reducible apply a2_id); exact $a5) | ((with_reducible apply ao_id); exact $a5) | (with_reducible exact $a5) | ((with_reducible apply a_is0 $a6); rfl) | ((with_reducible apply a2_id); exact $a6) | ((with_reducible apply ao_id); exact $a6) | (with_reducible exact $a6) | exact tb_absF rfl | exact tb_absT rfl | exact pv_absF rfl | exact pv_absT rfl | exact a2_absT rfl | intro _ | exact (false : Bool) | ((with_reducible apply a_ix); rfl) | ((with_reducible apply a_ixL); rfl) | (exact Nat.le_of_ble_eq_true rfl) | exact rfl))
local macro_rules
  | `(tactic| simp_arith! [$a0:term, $a1:term, $a2:term, $a3:term, $a4:term, $a5:term, $a6:term, $a7:term]) => `(tactic| repeat (first | array_get_dec | ((with_reducible apply a_is0 $a0); rfl) | ((with_reducible apply a2_id); exact $a0) | ((with_reducible apply ao_id); exact $a0) | (with_reducible exact $a0) | ((with_reducible apply a_is0 $a1); rfl) | ((with_reducible apply a2_id); exact $a1) | ((with_reducible apply ao_id); exact $a1) | (with_reducible exact $a1) | ((with_reducible apply a_is0 $a2); rfl) | ((with_reducible apply a2_id); exact $a2) | ((with_reducible apply ao_id); exact $a2) | (with_reducible exact $a2) | ((with_reducible apply a_is0 $a3); rfl) | ((with_reducible apply a2_id); exact $a3) | ((with_reducible apply ao_id); exact $a3) | (with_reducible exact $a3) | ((with_reducible apply a_is0 $a4); rfl) | ((with_reducible apply a2_id); exact $a4) | ((with_reducible apply ao_id); exact $a4) | (with_reducible exact $a4) | ((with_reducible apply a_is0 $a5); rfl) | ((with_reducible apply a2_id); exact $a5) | ((with_reducible apply ao_id); exact $a5) | (with_reducible exact $a5) | ((with_reducible apply a_is0 $a6); rfl) | ((with_reducible apply a2_id); exact $a6) | ((with_reducible apply ao_id); exact $a6) | (with_reducible exact $a6) | ((with_reducible apply a_is0 $a7); rfl) | ((with_reducible apply a2_id); exact $a7) | ((with_reducible apply ao_id); exact $a7) | (with_reducible exact $a7) | exact tb_absF rfl | exact tb_absT rfl | exact pv_absF rfl | exact pv_absT rfl | exact a2_absT rfl | intro _ | exact (false : Bool) | ((with_reducible apply a_ix); rfl) | ((with_reducible apply a_ixL); rfl) | (exact Nat.le_of_ble_eq_true rfl) | exact rfl))
theorem l_form6 {d : D} (hp : Pl d) : Is (F_l_is_formula 24) [.d d, .d (.int 6)] (.bool (shal 6 d)) := l_is_formula_is 24 6 d (by omega) hp
theorem is_within_is {d : D} {lo hi : Int} (hp : noT d = true) : Is F_is_within [.d d, .d (.int lo), .d (.int hi)] (.bool (isInt d && within d lo hi)) := by
  unfold F_is_within
  refine is_fun fun sto => ?_
  cases d with
  | int i =>
    apply ws_retP
    · simp_arith! [(is_integer_is hp)]
    exact ⟨rfl, rfl⟩
  | _ =>
    apply ws_retP
    · simp_arith! [(is_integer_is hp)]
    exact ⟨rfl, rfl⟩
theorem due2 {s : S} {d : D} {lo : Int} (hn : noT d = true) (h10 : s.env[10]? = some (.d d)) (h4 : s.env[4]? = some (.d (.int lo))) : PV (mAndV (mCall (callV F_l_is_int) (aCons (mVar 10) aNil)) (mChain opLe opLe (mVar 4) (mVar 10) (mC (.int 7)))) s (.d (.bool (isInt d && within d lo 7))) := by
  cases d with
  | int i => exact pv_andV (tb_B (pv_call (pl_cons (pv_d h10) pl_nil) (a_is (l_is_int_is hn)))) fun _ => pv_chain (pv_d h4) (pv_d h10) a_leI (fun _ => pv_C) fun _ => a_leI
  | _ => exact pv_andV (tb_B (pv_call (pl_cons (pv_d h10) pl_nil) (a_is (l_is_int_is hn)))) (pv_absT rfl)
theorem alike_is {d0 : D} (h0 : nd d0 ≤ 100000) (hl : d0.canLay0 = true) : Is F_l_alike [.d d0, .d d0] (.bool true) := Is.of_wf fun sto => alike_ok d0 sto h0 hl
def base4 : List Str := [Str.ofString "g", Str.ofString "h", Str.ofString "k", Str.ofString "l"]
def some4 : List Str := [Str.ofString "g", Str.ofString "h", Str.ofString "ha", Str.ofString "k"]
theorem pq4 : ∀ x ∈ base4, Pq (.str x) := by
  intro x hx
  simp only [base4, List.mem_cons, List.not_mem_nil, or_false] at hx
  rcases hx with rfl | rfl | rfl | rfl <;> exact ⟨⟨by decide +kernel, by decide +kernel⟩, by decide +kernel⟩
theorem pq4' : ∀ x ∈ some4, Pq (.str x) := by
  intro x hx
  simp only [some4, List.mem_cons, List.not_mem_nil, or_false] at hx
  rcases hx with rfl | rfl | rfl | rfl <;> exact ⟨⟨by decide +kernel, by decide +kernel⟩, by decide +kernel⟩
theorem good : Good F_law := fun is hl => by
  suffices h : wf (F_law [.frz (is.map .int)] []) fun r _ => r = .v (.d (.bool true)) by
    obtain ⟨r, s, e, rfl⟩ := h
    exact ⟨s, e⟩
  unfold F_law
  refine wf_fun ?_
  simp_arith
  refine wf_mono (bag_ok is hl) ?_
  rintro _ _ ⟨o, rfl, rfl, hb⟩
  simp_arith
  refine ws_for ?_
  simp_arith
  refine ⟨rfl, fun _ => trivial, fun xs s => ∃ (o : Ob) (x2 x3 x4 x5 x6 x7 x8 x9 x10 x11 x12 x13 : Sl), s = ⟨[slD (.frz (is.map .int)), .loc 0, x2, x3, x4, x5, x6, x7, x8, x9, x10, x11, x12, x13], [o]⟩ ∧ Bag o, ?_, ?_, ?_⟩
  · exact ⟨o, _, _, _, _, _, _, _, _, _, _, _, _, rfl, hb⟩
  · rintro s ⟨o, x2, x3, x4, x5, x6, x7, x8, x9, x10, x11, x12, x13, rfl, hb⟩
    simp_arith
    rfl
  · rintro x xs s ⟨o, x2, x3, x4, x5, x6, x7, x8, x9, x10, x11, x12, x13, rfl, hb⟩
    refine ⟨_, rfl, ?_⟩
    simp_all_arith
    refine wf_mono (formula_ok (ns := base4) (by decide) (fun x hx => (pq4 x hx).1) 24 3 o (by decide) hb) ?_
    rintro _ _ ⟨f, o, rfl, rfl, hb, fd4, szf, onf⟩
    simp_all_arith
    refine wf_mono (take_ok hb (by decide) (by decide)) ?_
    rintro _ _ ⟨v, o, rfl, rfl, v0, v1, hb⟩
    simp_all_arith
    refine ws_for ?_
    simp_all_arith
    refine wf_mono (take_ok hb (by decide) (by decide)) ?_
    rintro _ _ ⟨k, o, rfl, rfl, k0, k1, hb⟩
    simp_all_arith
    refine ⟨rfl, fun _ => trivial, fun xs s => ∃ (g : Fm) (o : Ob) (x6 : Sl), s = ⟨[slD (.frz (is.map .int)), .loc 0, .d x, .d (enc f), .d (.int (v - 2)), .d (enc g), x6, x7, x8, x9, x10, x11, x12, x13], [o]⟩ ∧ Bag o ∧ On (fun x => x ∈ base4) g ∧ fd g + xs.length ≤ 8 ∧ sz g + 6 * xs.length ≤ 150, ?_, ?_, ?_⟩
    · have n3 : N0 3 ≤ 120 := by decide
      refine ⟨f, o, _, rfl, hb, onf, ?_, ?_⟩
      · rw [rangeD_length]; omega
      · rw [rangeD_length]; omega
    · rintro s ⟨g, o, x6, rfl, hb, ong, fdg, szg⟩
      rw [List.length_nil] at fdg szg
      simp_all_arith
      refine wf_mono (some_ok hb (by simp) (by decide)) ?_
      rintro _ _ ⟨d, o, rfl, rfl, hd, hb⟩
      simp_all_arith
      obtain ⟨m, rfl, m0, m1⟩ : ∃ m : Int, d = .int m ∧ 7 ≤ m ∧ m ≤ 9 := by
        simp only [List.mem_cons, List.not_mem_nil, or_false] at hd
        rcases hd with rfl | rfl | rfl <;> exact ⟨_, rfl, by decide, by decide⟩
      refine PV.wp (a_repT ⟨by simp, by omega, by omega, by simp, ?_⟩) ?_
      · simp only [List.length_cons, List.length_nil]
        exact szl (by omega)
      simp_all_arith
      have hwide : Pl (.tuple [.str (Str.ofString "any"), .tuple (List.replicate m.toNat [PyData.tuple [.str (Str.ofString "gift"), .str (Str.ofString "g")]]).flatten]) := by
        have hs : ∀ z, z ∈ [Str.ofString "any", Str.ofString "gift", Str.ofString "g"] → Pl (.str z) := by
          intro z hz
          simp only [List.mem_cons, List.not_mem_nil, or_false] at hz
          rcases hz with rfl | rfl | rfl <;> exact ⟨⟨by decide +kernel, by decide +kernel⟩, by decide +kernel⟩
        refine ⟨by simp, hs _ (by simp), ⟨?_, pls_mem.mpr fun d hd => ?_⟩, trivial⟩
        · rw [List.length_flatten, List.map_replicate, List.sum_replicate_nat]
          simp only [List.length_cons, List.length_nil]; omega
        · obtain ⟨l, h1, h2⟩ := List.mem_flatten.mp hd
          rw [List.eq_of_mem_replicate h1, List.mem_singleton] at h2
          rw [h2]
          exact ⟨by simp, hs _ (by simp), hs _ (by simp), trivial⟩
      dsimp only
      generalize PyData.tuple [.str (Str.ofString "any"), .tuple (List.replicate m.toNat [PyData.tuple [.str (Str.ofString "gift"), .str (Str.ofString "g")]]).flatten] = wide at hwide ⊢
      refine wf_mono (mixed_ok (ds := some4.map PyData.str) hb (by simp [some4]) (fun d hd => by
        obtain ⟨z, hz, rfl⟩ := List.mem_map.mp hd
        exact (pq4' z hz).1)) ?_
      rintro _ _ ⟨es, o, rfl, rfl, es1, es2, hb⟩
      simp_all_arith
      refine wf_mono (take_ok hb (by decide) (by decide)) ?_
      rintro _ _ ⟨w, o, rfl, rfl, w0, w1, hb⟩
      simp_all_arith
      obtain ⟨T, eT⟩ := strs_ex (es := cutL es none (some w)) fun d hd => by
        obtain ⟨z, _, rfl⟩ := List.mem_map.mp (es1 d (cutL_sub hd))
        exact ⟨z, rfl⟩
      have hT : ∀ z ∈ T, Pq (.str z) := fun z hz => by
        have h1 : PyData.str z ∈ cutL es none (some w) := by rw [eT]; exact List.mem_map_of_mem hz
        obtain ⟨z', h2, h3⟩ := List.mem_map.mp (es1 _ (cutL_sub h1))
        cases h3
        exact pq4' z h2
      have lT : T.length ≤ 4 := by
        have h1 := cutL_len es none (some w)
        rw [eT, List.length_map] at h1
        rw [List.length_map] at es2
        exact Nat.le_trans h1 es2
      dsimp only
      rw [eT]
      simp_all_arith
      refine PO.wp a_sortT ?_
      simp_all_arith
      dsimp only
      have pf : Pl (enc f) := pq_pl _ (pq_enc f (on_imp pq4 f onf) (by have n3 : N0 3 ≤ 120 := by decide
                                                                       omega))
      have pg : Pl (enc g) := pq_pl _ (pq_enc g (on_imp pq4 g ong) (by omega))
      have pT : Pq (.tuple (T.map PyData.str)) := ⟨by rw [List.length_map]; omega, pqs_mem.mpr fun d hd => by
        obtain ⟨z, hz, rfl⟩ := List.mem_map.mp hd
        exact hT z hz⟩
      have pT2 : Pl (.tuple ((sortL ltS T).map PyData.str)) := ⟨by rw [List.length_map, (sortL_perm T).length_eq]; omega, pls_mem.mpr fun d hd => by
        obtain ⟨z, hz, rfl⟩ := List.mem_map.mp hd
        exact pq_pl _ (hT z ((sortL_perm T).mem_iff.mp hz))⟩
      have pA : ([enc f, enc g, wide, PyData.tuple (T.map PyData.str), PyData.tuple ((sortL ltS T).map PyData.str), PyData.tuple [.str (Str.ofString "g"), .str (Str.ofString "g")], PyData.tuple [.str (Str.ofString "gift"), .str (Str.ofString "gift")], PyData.tuple [.str (Str.ofString "gift"), .str (Str.ofString "all")], PyData.tuple [.str (Str.ofString "all"), .tuple []], PyData.tuple [.str (Str.ofString "any"), .list []], PyData.tuple [.str (Str.ofString "both"), .tuple []]] : List D).length = 11 ∧ Pls [enc f, enc g, wide, PyData.tuple (T.map PyData.str), PyData.tuple ((sortL ltS T).map PyData.str), PyData.tuple [.str (Str.ofString "g"), .str (Str.ofString "g")], PyData.tuple [.str (Str.ofString "gift"), .str (Str.ofString "gift")], PyData.tuple [.str (Str.ofString "gift"), .str (Str.ofString "all")], PyData.tuple [.str (Str.ofString "all"), .tuple []], PyData.tuple [.str (Str.ofString "any"), .list []], PyData.tuple [.str (Str.ofString "both"), .tuple []]] := by
        have e0 : Pl (.tuple []) := ⟨by simp, trivial⟩
        have e1 : Pl (.list []) := ⟨by simp, trivial⟩
        have two : ∀ a b : D, Pl a → Pl b → Pl (.tuple [a, b]) := fun a b ha hb => ⟨by simp, ha, hb, trivial⟩
        have s1 := plS (Str.ofString "g") (by decide +kernel)
        have s2 := plS (Str.ofString "gift") (by decide +kernel)
        have s3 := plS (Str.ofString "all") (by decide +kernel)
        have s4 := plS (Str.ofString "any") (by decide +kernel)
        have s5 := plS (Str.ofString "both") (by decide +kernel)
        exact ⟨rfl, pf, pg, hwide, pq_pl _ pT, pT2, two _ _ s1 s1, two _ _ s2 s2, two _ _ s2 s3, two _ _ s3 e0, two _ _ s4 e1, two _ _ s5 e0, trivial⟩
      generalize ([enc f, enc g, wide, PyData.tuple (T.map PyData.str), PyData.tuple ((sortL ltS T).map PyData.str), PyData.tuple [.str (Str.ofString "g"), .str (Str.ofString "g")], PyData.tuple [.str (Str.ofString "gift"), .str (Str.ofString "gift")], PyData.tuple [.str (Str.ofString "gift"), .str (Str.ofString "all")], PyData.tuple [.str (Str.ofString "all"), .tuple []], PyData.tuple [.str (Str.ofString "any"), .list []], PyData.tuple [.str (Str.ofString "both"), .tuple []]] : List D) = A at pA ⊢
      obtain ⟨lA, pA⟩ := pA
      refine wf_mono (odd_ok hb) ?_
      rintro _ _ ⟨od, o, rfl, rfl, pod, hb⟩
      simp_all_arith
      refine ws_for ?_
      simp_all_arith
      refine wf_mono (bent_ok 24 4 (enc g) o (by decide) (pq_enc g (on_imp pq4 g ong) (by omega)) (by have := (sh_enc g (on_imp (fun x hx => (pq4 x hx).1) g ong)).2; omega) hb) ?_
      rintro _ _ ⟨b1, o, rfl, rfl, p1, hb⟩
      simp_all_arith
      refine wf_mono (bent_ok 24 3 (enc f) o (by decide) (pq_enc f (on_imp pq4 f onf) (by have n3 : N0 3 ≤ 120 := by decide
                                                                                          omega)) (by have := (sh_enc f (on_imp (fun x hx => (pq4 x hx).1) f onf)).2; omega) hb) ?_
      rintro _ _ ⟨b2, o, rfl, rfl, p2, hb⟩
      simp_all_arith
      refine wf_mono (bent_ok 24 1 (.tuple (T.map PyData.str)) o (by decide) pT (by
        rw [PyData.depth]
        have : ∀ T : List Str, PyData.depthAll (T.map .str) ≤ 0 := fun T => by
          induction T with
          | nil => simp [PyData.depthAll]
          | cons z T ih => simp only [List.map_cons, PyData.depthAll, PyData.depth]; omega
        have := this T
        omega) hb) ?_
      rintro _ _ ⟨b3, o, rfl, rfl, p3, hb⟩
      simp_all_arith
      have pall : ∀ d ∈ (A ++ [PyData.str (Str.ofString "g"), .str (Str.ofString "demand"), .str (Str.ofString "hillside"), .str (Str.ofString "hillsides"), .str (Str.ofString "Hill"), .str (Str.ofString ""), .str (Str.ofString "a1"), .int 4, .int (v - 2), .bool true, .tuple [.str (Str.ofString "g"), .str (Str.ofString "h"), .int 3], od]) ++ [b1, b2, b3], Pl d := by
        refine pls_mem.mp (pls_app.mpr ⟨pls_app.mpr ⟨pA, ?_⟩, p1, p2, p3, trivial⟩)
        exact ⟨plS _ (by decide +kernel), plS _ (by decide +kernel), plS _ (by decide +kernel), plS _ (by decide +kernel), plS _ (by decide +kernel), plS _ (by decide +kernel), plS _ (by decide +kernel), trivial, trivial, trivial, ⟨by simp, plS _ (by decide +kernel), plS _ (by decide +kernel), trivial, trivial⟩, pod, trivial⟩
      have okg : ok1 g := on_imp (fun x hx => (pq4 x hx).1) g ong
      refine ⟨rfl, fun _ => trivial, fun xs s => (∀ d ∈ xs, Pl d) ∧ ∃ (x2 x3 x6 x7 x8 x9 x10 x11 x12 x13 : Sl), s = ⟨[slD (.frz (is.map .int)), .loc 0, x2, x3, .d (.int (v - 2)), .d (enc g), x6, x7, x8, x9, x10, x11, x12, x13], [o]⟩, ?_, ?_, ?_⟩
      · exact ⟨pall, _, _, _, _, _, _, _, _, _, _, rfl⟩
      · rintro s ⟨-, x2, x3, x6, x7, x8, x9, x10, x11, x12, x13, rfl⟩
        apply ws_ifP
        · simp_arith! [(l_form6 pg)]
        all_goals intro h
        · refine ws_seq ?_
          have hset := setL_len (nm g)
          have hnm := nm_len g
          have hal := alike_is (d0 := .list [.tuple ((setL ltS (nm g)).map .str), .int (dpI g), .int (szI g)]) (by simp only [nd, nds, nds_strs]; omega) (by
            rw [PyData.canLay0, PyData.canLayAll0, PyData.canLayAll0, PyData.canLayAll0, PyData.canLayAll0, PyData.canLay0, PyData.canLay0, PyData.canLay0, lay_strs fun x hx => nm_on g okg x (setL_mem.mp hx)]
            rfl)
          apply ws_setP
          · simp_arith! [(names_in_is okg (by omega) (by omega)), (depth_of_is 24 g (by omega) (by omega)), (size_of_is 24 g (by omega))]
          apply ws_ifP
          · simp_arith! [(l_names_in_is 24 g (by omega) (by omega)), (l_depth_is 24 g (by omega) (by omega)), (l_size_is 24 g (by omega))]
            exact a_is hal
            simp_arith!
          all_goals intro h2
          · cases h2
          · exact ⟨o, _, _, _, _, _, _, _, _, _, _, _, _, rfl, hb⟩
        · exact ⟨o, _, _, _, _, _, _, _, _, _, _, _, _, rfl, hb⟩
      · rintro d ds s ⟨hds, x2, x3, x6, x7, x8, x9, x10, x11, x12, x13, rfl⟩
        have hp := hds d (List.mem_cons_self ..)
        have hn := pl_noT hp
        refine ⟨_, rfl, ?_⟩
        refine ws_seq ?_
        apply ws_setP
        · simp_arith! [(is_integer_is hn), (is_within_is hn), (is_name_is hp), (is_formula_is hp), (is_set_is hp)]
        refine ws_seq ?_
        apply ws_setP
        · apply pv_frzL
          apply po_lst
          · apply pl_cons
            · simp_arith! [(l_is_int_is hn)]
            apply pl_cons
            · exact due2 hn rfl rfl
            simp_arith! [(l_is_name_is hp), (l_form6 hp)]
          · rfl
          · exact Nat.le_of_ble_eq_true rfl
        have hal := alike_is (d0 := .list [.bool (isInt d), .bool (isInt d && within d (v - 2) 7), .bool (isName d), .bool (shal 6 d), .bool (isSet d)]) (by simp [nd, nds]) (by simp [PyData.canLay0, PyData.canLayAll0])
        apply ws_ifP
        · simp_arith! [(l_is_set_is hp)]
          exact a_is hal
          simp_arith!
        all_goals intro h
        · cases h
        · exact ⟨fun e he => hds e (List.mem_cons_of_mem _ he), _, _, _, _, _, _, _, _, _, _, rfl⟩
    · rintro y ys s ⟨g, o, x6, rfl, hb, ong, fdg, szg⟩
      refine ⟨_, rfl, ?_⟩
      simp_all_arith
      refine wf_mono (some_ok hb (by simp) (by simp)) ?_
      rintro _ _ ⟨d, o, rfl, rfl, hd, hb⟩
      simp_all_arith
      simp only [List.mem_cons, List.not_mem_nil, or_false] at hd
      rw [List.length_cons] at fdg szg
      rcases hd with rfl | rfl
      · refine ⟨.node true [g], o, _, rfl, hb, ⟨ong, trivial⟩, ?_, ?_⟩
        · simp only [fd, fds]; omega
        · simp only [sz, szs]; omega
      · refine ⟨.node false [.gift (Str.ofString "g"), g], o, _, rfl, hb, ⟨show Str.ofString "g" ∈ base4 from List.mem_cons_self .., ong, trivial⟩, ?_, ?_⟩
        · simp only [fd, fds]; omega
        · simp only [sz, szs]; omega
end Lk01
set_option Elab.async false
set_option linter.all false
set_option maxRecDepth 100000
set_option maxHeartbeats 4000000
namespace Lk01
open PySem PySem.Spec PyProof.Rows L2 RA
noncomputable def txt_mk {w : World} {K : PySem.W.Frag} {h : Heap} {mg : Str → Option Value} (X : K.In h) (G : h.Ns mainGlobals mg)
  {f0 : Addr} {od0 an0 : Option Addr} {sl0 : Array (Option Value)} {oc0 kV0 dc0 pm0 cd0 ct0 : Value}
  {f1 : Addr} {od1 an1 : Option Addr} {sl1 : Array (Option Value)} {oc1 kV1 dc1 pm1 cd1 ct1 : Value}
  {f2 : Addr} {od2 an2 : Option Addr} {sl2 : Array (Option Value)} {oc2 kV2 dc2 pm2 cd2 ct2 : Value}
  {f3 : Addr} {od3 an3 : Option Addr} {sl3 : Array (Option Value)} {oc3 kV3 dc3 pm3 cd3 ct3 : Value}
  {f4 : Addr} {od4 an4 : Option Addr} {sl4 : Array (Option Value)} {oc4 kV4 dc4 pm4 cd4 ct4 : Value}
  {f5 : Addr} {od5 an5 : Option Addr} {sl5 : Array (Option Value)} {oc5 kV5 dc5 pm5 cd5 ct5 : Value}
  {f6 : Addr} {od6 an6 : Option Addr} {sl6 : Array (Option Value)} {oc6 kV6 dc6 pm6 cd6 ct6 : Value}
  {f7 : Addr} {od7 an7 : Option Addr} {sl7 : Array (Option Value)} {oc7 kV7 dc7 pm7 cd7 ct7 : Value}
  {f8 : Addr} {od8 an8 : Option Addr} {sl8 : Array (Option Value)} {oc8 kV8 dc8 pm8 cd8 ct8 : Value}
  {f9 : Addr} {od9 an9 : Option Addr} {sl9 : Array (Option Value)} {oc9 kV9 dc9 pm9 cd9 ct9 : Value}
  {f10 : Addr} {od10 an10 : Option Addr} {sl10 : Array (Option Value)} {oc10 kV10 dc10 pm10 cd10 ct10 : Value}
  {f11 : Addr} {od11 an11 : Option Addr} {sl11 : Array (Option Value)} {oc11 kV11 dc11 pm11 cd11 ct11 : Value}
  {f12 : Addr} {od12 an12 : Option Addr} {sl12 : Array (Option Value)} {oc12 kV12 dc12 pm12 cd12 ct12 : Value}
  {f13 : Addr} {od13 an13 : Option Addr} {sl13 : Array (Option Value)} {oc13 kV13 dc13 pm13 cd13 ct13 : Value}
  {f14 : Addr} {od14 an14 : Option Addr} {sl14 : Array (Option Value)} {oc14 kV14 dc14 pm14 cd14 ct14 : Value}
  {f15 : Addr} {od15 an15 : Option Addr} {sl15 : Array (Option Value)} {oc15 kV15 dc15 pm15 cd15 ct15 : Value}
  {f16 : Addr} {od16 an16 : Option Addr} {sl16 : Array (Option Value)} {oc16 kV16 dc16 pm16 cd16 ct16 : Value}
  {f17 : Addr} {od17 an17 : Option Addr} {sl17 : Array (Option Value)} {oc17 kV17 dc17 pm17 cd17 ct17 : Value}
  {f18 : Addr} {od18 an18 : Option Addr} {sl18 : Array (Option Value)} {oc18 kV18 dc18 pm18 cd18 ct18 : Value}
  {f19 : Addr} {od19 an19 : Option Addr} {sl19 : Array (Option Value)} {oc19 kV19 dc19 pm19 cd19 ct19 : Value}
  {f20 : Addr} {od20 an20 : Option Addr} {sl20 : Array (Option Value)} {oc20 kV20 dc20 pm20 cd20 ct20 : Value}
  {f21 : Addr} {od21 an21 : Option Addr} {sl21 : Array (Option Value)} {oc21 kV21 dc21 pm21 cd21 ct21 : Value}
  {f22 : Addr} {od22 an22 : Option Addr} {sl22 : Array (Option Value)} {oc22 kV22 dc22 pm22 cd22 ct22 : Value}
  {f23 : Addr} {od23 an23 : Option Addr} {sl23 : Array (Option Value)} {oc23 kV23 dc23 pm23 cd23 ct23 : Value}
  {f24 : Addr} {od24 an24 : Option Addr} {sl24 : Array (Option Value)} {oc24 kV24 dc24 pm24 cd24 ct24 : Value}
  {u0 : Tok}
  {p1 n1 : Nat} {q1 : Array (Option Value)} {u1_0 : Tok} {u1_1 : Tok}
  {u2 : Tok}
  {u3 : Tok}
  {u4 : Tok}
  {u5 : Tok}
  {p6 n6 : Nat} {q6 : Array (Option Value)} {u6_0 : Tok} {u6_1 : Tok} {u6_2 : Tok} {u6_3 : Tok} {u6_4 : Tok} {u6_5 : Tok} {u6_6 : Tok} {u6_7 : Tok}
  (a0 : PySem.W.nsIn K mainGlobals "is_integer" = some (some (.ref f0))) (l0 : K.lookup f0 = some ⟨oc0, od0, .func (PySem.W.fnOf "is_integer" "is_integer" (defArgs s_is_integer) (defBody s_is_integer) (defScope s_is_integer) .none kV0 dc0 pm0 an0 cd0 ct0), sl0⟩) (c0 : PySem.W.codeIn K cd0 "is_integer" = true) (k0 : PySem.W.keepIn K (.ref f0) = true)
  (a1 : PySem.W.nsIn K mainGlobals "is_within" = some (some (.ref f1))) (l1 : K.lookup f1 = some ⟨oc1, od1, .func (PySem.W.fnOf "is_within" "is_within" (defArgs s_is_within) (defBody s_is_within) (defScope s_is_within) .none kV1 dc1 pm1 an1 cd1 ct1), sl1⟩) (c1 : PySem.W.codeIn K cd1 "is_within" = true) (k1 : PySem.W.keepIn K (.ref f1) = true)
  (a2 : PySem.W.nsIn K mainGlobals "is_name" = some (some (.ref f2))) (l2 : K.lookup f2 = some ⟨oc2, od2, .func (PySem.W.fnOf "is_name" "is_name" (defArgs s_is_name) (defBody s_is_name) (defScope s_is_name) .none kV2 dc2 pm2 an2 cd2 ct2), sl2⟩) (c2 : PySem.W.codeIn K cd2 "is_name" = true) (k2 : PySem.W.keepIn K (.ref f2) = true)
  (a3 : PySem.W.nsIn K mainGlobals "is_shallow" = some (some (.ref f3))) (l3 : K.lookup f3 = some ⟨oc3, od3, .func (PySem.W.fnOf "is_shallow" "is_shallow" (defArgs s_is_shallow) (defBody s_is_shallow) (defScope s_is_shallow) .none kV3 dc3 pm3 an3 cd3 ct3), sl3⟩) (c3 : PySem.W.codeIn K cd3 "is_shallow" = true) (k3 : PySem.W.keepIn K (.ref f3) = true)
  (a4 : PySem.W.nsIn K mainGlobals "is_formula" = some (some (.ref f4))) (l4 : K.lookup f4 = some ⟨oc4, od4, .func (PySem.W.fnOf "is_formula" "is_formula" (defArgs s_is_formula) (defBody s_is_formula) (defScope s_is_formula) .none kV4 dc4 pm4 an4 cd4 ct4), sl4⟩) (c4 : PySem.W.codeIn K cd4 "is_formula" = true) (k4 : PySem.W.keepIn K (.ref f4) = true)
  (a5 : PySem.W.nsIn K mainGlobals "is_set" = some (some (.ref f5))) (l5 : K.lookup f5 = some ⟨oc5, od5, .func (PySem.W.fnOf "is_set" "is_set" (defArgs s_is_set) (defBody s_is_set) (defScope s_is_set) .none kV5 dc5 pm5 an5 cd5 ct5), sl5⟩) (c5 : PySem.W.codeIn K cd5 "is_set" = true) (k5 : PySem.W.keepIn K (.ref f5) = true)
  (a6 : PySem.W.nsIn K mainGlobals "depth_of" = some (some (.ref f6))) (l6 : K.lookup f6 = some ⟨oc6, od6, .func (PySem.W.fnOf "depth_of" "depth_of" (defArgs s_depth_of) (defBody s_depth_of) (defScope s_depth_of) .none kV6 dc6 pm6 an6 cd6 ct6), sl6⟩) (c6 : PySem.W.codeIn K cd6 "depth_of" = true) (k6 : PySem.W.keepIn K (.ref f6) = true)
  (a7 : PySem.W.nsIn K mainGlobals "size_of" = some (some (.ref f7))) (l7 : K.lookup f7 = some ⟨oc7, od7, .func (PySem.W.fnOf "size_of" "size_of" (defArgs s_size_of) (defBody s_size_of) (defScope s_size_of) .none kV7 dc7 pm7 an7 cd7 ct7), sl7⟩) (c7 : PySem.W.codeIn K cd7 "size_of" = true) (k7 : PySem.W.keepIn K (.ref f7) = true)
  (a8 : PySem.W.nsIn K mainGlobals "names_in" = some (some (.ref f8))) (l8 : K.lookup f8 = some ⟨oc8, od8, .func (PySem.W.fnOf "names_in" "names_in" (defArgs s_names_in) (defBody s_names_in) (defScope s_names_in) .none kV8 dc8 pm8 an8 cd8 ct8), sl8⟩) (c8 : PySem.W.codeIn K cd8 "names_in" = true) (k8 : PySem.W.keepIn K (.ref f8) = true)
  (a9 : PySem.W.nsIn K mainGlobals "_law_bag" = some (some (.ref f9))) (l9 : K.lookup f9 = some ⟨oc9, od9, .func (PySem.W.fnOf "_law_bag" "_law_bag" (defArgs s_l_bag) (defBody s_l_bag) (defScope s_l_bag) .none kV9 dc9 pm9 an9 cd9 ct9), sl9⟩) (c9 : PySem.W.codeIn K cd9 "_law_bag" = true) (k9 : PySem.W.keepIn K (.ref f9) = true)
  (a10 : PySem.W.nsIn K mainGlobals "_law_take" = some (some (.ref f10))) (l10 : K.lookup f10 = some ⟨oc10, od10, .func (PySem.W.fnOf "_law_take" "_law_take" (defArgs s_l_take) (defBody s_l_take) (defScope s_l_take) .none kV10 dc10 pm10 an10 cd10 ct10), sl10⟩) (c10 : PySem.W.codeIn K cd10 "_law_take" = true) (k10 : PySem.W.keepIn K (.ref f10) = true)
  (a11 : PySem.W.nsIn K mainGlobals "_law_some" = some (some (.ref f11))) (l11 : K.lookup f11 = some ⟨oc11, od11, .func (PySem.W.fnOf "_law_some" "_law_some" (defArgs s_l_some) (defBody s_l_some) (defScope s_l_some) .none kV11 dc11 pm11 an11 cd11 ct11), sl11⟩) (c11 : PySem.W.codeIn K cd11 "_law_some" = true) (k11 : PySem.W.keepIn K (.ref f11) = true)
  (a12 : PySem.W.nsIn K mainGlobals "_law_mixed" = some (some (.ref f12))) (l12 : K.lookup f12 = some ⟨oc12, od12, .func (PySem.W.fnOf "_law_mixed" "_law_mixed" (defArgs s_l_mixed) (defBody s_l_mixed) (defScope s_l_mixed) .none kV12 dc12 pm12 an12 cd12 ct12), sl12⟩) (c12 : PySem.W.codeIn K cd12 "_law_mixed" = true) (k12 : PySem.W.keepIn K (.ref f12) = true)
  (a13 : PySem.W.nsIn K mainGlobals "_law_alike" = some (some (.ref f13))) (l13 : K.lookup f13 = some ⟨oc13, od13, .func (PySem.W.fnOf "_law_alike" "_law_alike" (defArgs s_l_alike) (defBody s_l_alike) (defScope s_l_alike) .none kV13 dc13 pm13 an13 cd13 ct13), sl13⟩) (c13 : PySem.W.codeIn K cd13 "_law_alike" = true) (k13 : PySem.W.keepIn K (.ref f13) = true)
  (a14 : PySem.W.nsIn K mainGlobals "_law_is_int" = some (some (.ref f14))) (l14 : K.lookup f14 = some ⟨oc14, od14, .func (PySem.W.fnOf "_law_is_int" "_law_is_int" (defArgs s_l_is_int) (defBody s_l_is_int) (defScope s_l_is_int) .none kV14 dc14 pm14 an14 cd14 ct14), sl14⟩) (c14 : PySem.W.codeIn K cd14 "_law_is_int" = true) (k14 : PySem.W.keepIn K (.ref f14) = true)
  (a15 : PySem.W.nsIn K mainGlobals "_law_bent" = some (some (.ref f15))) (l15 : K.lookup f15 = some ⟨oc15, od15, .func (PySem.W.fnOf "_law_bent" "_law_bent" (defArgs s_l_bent) (defBody s_l_bent) (defScope s_l_bent) .none kV15 dc15 pm15 an15 cd15 ct15), sl15⟩) (c15 : PySem.W.codeIn K cd15 "_law_bent" = true) (k15 : PySem.W.keepIn K (.ref f15) = true)
  (a16 : PySem.W.nsIn K mainGlobals "_law_formula" = some (some (.ref f16))) (l16 : K.lookup f16 = some ⟨oc16, od16, .func (PySem.W.fnOf "_law_formula" "_law_formula" (defArgs s_l_formula) (defBody s_l_formula) (defScope s_l_formula) .none kV16 dc16 pm16 an16 cd16 ct16), sl16⟩) (c16 : PySem.W.codeIn K cd16 "_law_formula" = true) (k16 : PySem.W.keepIn K (.ref f16) = true)
  (a17 : PySem.W.nsIn K mainGlobals "_law_names_in" = some (some (.ref f17))) (l17 : K.lookup f17 = some ⟨oc17, od17, .func (PySem.W.fnOf "_law_names_in" "_law_names_in" (defArgs s_l_names_in) (defBody s_l_names_in) (defScope s_l_names_in) .none kV17 dc17 pm17 an17 cd17 ct17), sl17⟩) (c17 : PySem.W.codeIn K cd17 "_law_names_in" = true) (k17 : PySem.W.keepIn K (.ref f17) = true)
  (a18 : PySem.W.nsIn K mainGlobals "_law_odd" = some (some (.ref f18))) (l18 : K.lookup f18 = some ⟨oc18, od18, .func (PySem.W.fnOf "_law_odd" "_law_odd" (defArgs s_l_odd) (defBody s_l_odd) (defScope s_l_odd) .none kV18 dc18 pm18 an18 cd18 ct18), sl18⟩) (c18 : PySem.W.codeIn K cd18 "_law_odd" = true) (k18 : PySem.W.keepIn K (.ref f18) = true)
  (a19 : PySem.W.nsIn K mainGlobals "_law_is_name" = some (some (.ref f19))) (l19 : K.lookup f19 = some ⟨oc19, od19, .func (PySem.W.fnOf "_law_is_name" "_law_is_name" (defArgs s_l_is_name) (defBody s_l_is_name) (defScope s_l_is_name) .none kV19 dc19 pm19 an19 cd19 ct19), sl19⟩) (c19 : PySem.W.codeIn K cd19 "_law_is_name" = true) (k19 : PySem.W.keepIn K (.ref f19) = true)
  (a20 : PySem.W.nsIn K mainGlobals "_law_is_formula" = some (some (.ref f20))) (l20 : K.lookup f20 = some ⟨oc20, od20, .func (PySem.W.fnOf "_law_is_formula" "_law_is_formula" (defArgs s_l_is_formula) (defBody s_l_is_formula) (defScope s_l_is_formula) .none kV20 dc20 pm20 an20 cd20 ct20), sl20⟩) (c20 : PySem.W.codeIn K cd20 "_law_is_formula" = true) (k20 : PySem.W.keepIn K (.ref f20) = true)
  (a21 : PySem.W.nsIn K mainGlobals "_law_is_set" = some (some (.ref f21))) (l21 : K.lookup f21 = some ⟨oc21, od21, .func (PySem.W.fnOf "_law_is_set" "_law_is_set" (defArgs s_l_is_set) (defBody s_l_is_set) (defScope s_l_is_set) .none kV21 dc21 pm21 an21 cd21 ct21), sl21⟩) (c21 : PySem.W.codeIn K cd21 "_law_is_set" = true) (k21 : PySem.W.keepIn K (.ref f21) = true)
  (a22 : PySem.W.nsIn K mainGlobals "_law_depth" = some (some (.ref f22))) (l22 : K.lookup f22 = some ⟨oc22, od22, .func (PySem.W.fnOf "_law_depth" "_law_depth" (defArgs s_l_depth) (defBody s_l_depth) (defScope s_l_depth) .none kV22 dc22 pm22 an22 cd22 ct22), sl22⟩) (c22 : PySem.W.codeIn K cd22 "_law_depth" = true) (k22 : PySem.W.keepIn K (.ref f22) = true)
  (a23 : PySem.W.nsIn K mainGlobals "_law_size" = some (some (.ref f23))) (l23 : K.lookup f23 = some ⟨oc23, od23, .func (PySem.W.fnOf "_law_size" "_law_size" (defArgs s_l_size) (defBody s_l_size) (defScope s_l_size) .none kV23 dc23 pm23 an23 cd23 ct23), sl23⟩) (c23 : PySem.W.codeIn K cd23 "_law_size" = true) (k23 : PySem.W.keepIn K (.ref f23) = true)
  (a24 : PySem.W.nsIn K mainGlobals "law" = some (some (.ref f24))) (l24 : K.lookup f24 = some ⟨oc24, od24, .func (PySem.W.fnOf "law" "law" (defArgs s_law) (defBody s_law) (defScope s_law) .none kV24 dc24 pm24 an24 cd24 ct24), sl24⟩) (c24 : PySem.W.codeIn K cd24 "law" = true) (k24 : PySem.W.keepIn K (.ref f24) = true)
  (z0 : PySem.W.nsIn K mainGlobals "abs" = some none)
  (z1 : PySem.W.nsIn K mainGlobals "all" = some none)
  (z2 : PySem.W.nsIn K mainGlobals "bool" = some none)
  (z3 : PySem.W.nsIn K mainGlobals "int" = some none)
  (z4 : PySem.W.nsIn K mainGlobals "isinstance" = some none)
  (z5 : PySem.W.nsIn K mainGlobals "len" = some none)
  (z6 : PySem.W.nsIn K mainGlobals "list" = some none)
  (z7 : PySem.W.nsIn K mainGlobals "max" = some none)
  (z8 : PySem.W.nsIn K mainGlobals "range" = some none)
  (z9 : PySem.W.nsIn K mainGlobals "set" = some none)
  (z10 : PySem.W.nsIn K mainGlobals "sorted" = some none)
  (z11 : PySem.W.nsIn K mainGlobals "str" = some none)
  (z12 : PySem.W.nsIn K mainGlobals "sum" = some none)
  (z13 : PySem.W.nsIn K mainGlobals "tuple" = some none)
  (z14 : PySem.W.nsIn K mainGlobals "zip" = some none)
  (g0 : PySem.W.nsIn K mainGlobals "GIFT" = some (some (.str "gift" u0)))
  (g1 : PySem.W.nsIn K mainGlobals "JOINS" = some (some (.ref p1))) (e1 : K.lookup p1 = some ⟨.type "tuple", none, .seq #[.str "all" u1_0, .str "any" u1_1] n1, q1⟩)
  (g2 : PySem.W.nsIn K mainGlobals "LETTERS" = some (some (.str "abcdefghijklmnopqrstuvwxyz" u2)))
  (g3 : PySem.W.nsIn K mainGlobals "MOST_DEPTH" = some (some (.int 6 u3)))
  (g4 : PySem.W.nsIn K mainGlobals "MOST_NAME" = some (some (.int 8 u4)))
  (g5 : PySem.W.nsIn K mainGlobals "MOST_PARTS" = some (some (.int 8 u5)))
  (g6 : PySem.W.nsIn K mainGlobals "RESERVED" = some (some (.ref p6))) (e6 : K.lookup p6 = some ⟨.type "tuple", none, .seq #[.str "all" u6_0, .str "any" u6_1, .str "demand" u6_2, .str "gift" u6_3, .str "key" u6_4, .str "lock" u6_5, .str "party" u6_6, .str "sleep" u6_7] n6, q6⟩) : Txt K w mg where
  is_integer := fn1 (fun_mk (st := s_is_integer) l0 c0 k0) (PySem.W.mg_of X G a0) ((fun_mk (st := s_is_integer) l0 c0 k0).binds (ps := ["thing"]) (fun _ _ _ _ _ _ us hl => match us, hl with | [_], _ => rfl))
  is_within := fn1 (fun_mk (st := s_is_within) l1 c1 k1) (PySem.W.mg_of X G a1) ((fun_mk (st := s_is_within) l1 c1 k1).binds (ps := ["thing", "least", "most"]) (fun _ _ _ _ _ _ us hl => match us, hl with | [_, _, _], _ => rfl))
  is_name := fn1 (fun_mk (st := s_is_name) l2 c2 k2) (PySem.W.mg_of X G a2) ((fun_mk (st := s_is_name) l2 c2 k2).binds (ps := ["thing"]) (fun _ _ _ _ _ _ us hl => match us, hl with | [_], _ => rfl))
  is_shallow := fn1 (fun_mk (st := s_is_shallow) l3 c3 k3) (PySem.W.mg_of X G a3) ((fun_mk (st := s_is_shallow) l3 c3 k3).binds (ps := ["thing", "levels"]) (fun _ _ _ _ _ _ us hl => match us, hl with | [_, _], _ => rfl))
  is_formula := fn1 (fun_mk (st := s_is_formula) l4 c4 k4) (PySem.W.mg_of X G a4) ((fun_mk (st := s_is_formula) l4 c4 k4).binds (ps := ["thing"]) (fun _ _ _ _ _ _ us hl => match us, hl with | [_], _ => rfl))
  is_set := fn1 (fun_mk (st := s_is_set) l5 c5 k5) (PySem.W.mg_of X G a5) ((fun_mk (st := s_is_set) l5 c5 k5).binds (ps := ["thing"]) (fun _ _ _ _ _ _ us hl => match us, hl with | [_], _ => rfl))
  depth_of := fn1 (fun_mk (st := s_depth_of) l6 c6 k6) (PySem.W.mg_of X G a6) ((fun_mk (st := s_depth_of) l6 c6 k6).binds (ps := ["formula"]) (fun _ _ _ _ _ _ us hl => match us, hl with | [_], _ => rfl))
  size_of := fn1 (fun_mk (st := s_size_of) l7 c7 k7) (PySem.W.mg_of X G a7) ((fun_mk (st := s_size_of) l7 c7 k7).binds (ps := ["formula"]) (fun _ _ _ _ _ _ us hl => match us, hl with | [_], _ => rfl))
  names_in := fn1 (fun_mk (st := s_names_in) l8 c8 k8) (PySem.W.mg_of X G a8) ((fun_mk (st := s_names_in) l8 c8 k8).binds (ps := ["formula"]) (fun _ _ _ _ _ _ us hl => match us, hl with | [_], _ => rfl))
  l_bag := fn1 (fun_mk (st := s_l_bag) l9 c9 k9) (PySem.W.mg_of X G a9) ((fun_mk (st := s_l_bag) l9 c9 k9).binds (ps := ["script"]) (fun _ _ _ _ _ _ us hl => match us, hl with | [_], _ => rfl))
  l_take := fn1 (fun_mk (st := s_l_take) l10 c10 k10) (PySem.W.mg_of X G a10) ((fun_mk (st := s_l_take) l10 c10 k10).binds (ps := ["bag", "many"]) (fun _ _ _ _ _ _ us hl => match us, hl with | [_, _], _ => rfl))
  l_some := fn1 (fun_mk (st := s_l_some) l11 c11 k11) (PySem.W.mg_of X G a11) ((fun_mk (st := s_l_some) l11 c11 k11).binds (ps := ["bag", "things"]) (fun _ _ _ _ _ _ us hl => match us, hl with | [_, _], _ => rfl))
  l_mixed := fn1 (fun_mk (st := s_l_mixed) l12 c12 k12) (PySem.W.mg_of X G a12) ((fun_mk (st := s_l_mixed) l12 c12 k12).binds (ps := ["bag", "things"]) (fun _ _ _ _ _ _ us hl => match us, hl with | [_, _], _ => rfl))
  l_alike := fn1 (fun_mk (st := s_l_alike) l13 c13 k13) (PySem.W.mg_of X G a13) ((fun_mk (st := s_l_alike) l13 c13 k13).binds (ps := ["found", "due"]) (fun _ _ _ _ _ _ us hl => match us, hl with | [_, _], _ => rfl))
  l_is_int := fn1 (fun_mk (st := s_l_is_int) l14 c14 k14) (PySem.W.mg_of X G a14) ((fun_mk (st := s_l_is_int) l14 c14 k14).binds (ps := ["thing"]) (fun _ _ _ _ _ _ us hl => match us, hl with | [_], _ => rfl))
  l_bent := fn1 (fun_mk (st := s_l_bent) l15 c15 k15) (PySem.W.mg_of X G a15) ((fun_mk (st := s_l_bent) l15 c15 k15).binds (ps := ["bag", "thing", "depth"]) (fun _ _ _ _ _ _ us hl => match us, hl with | [_, _, _], _ => rfl))
  l_formula := fn1 (fun_mk (st := s_l_formula) l16 c16 k16) (PySem.W.mg_of X G a16) ((fun_mk (st := s_l_formula) l16 c16 k16).binds (ps := ["bag", "names", "depth"]) (fun _ _ _ _ _ _ us hl => match us, hl with | [_, _, _], _ => rfl))
  l_names_in := fn1 (fun_mk (st := s_l_names_in) l17 c17 k17) (PySem.W.mg_of X G a17) ((fun_mk (st := s_l_names_in) l17 c17 k17).binds (ps := ["formula"]) (fun _ _ _ _ _ _ us hl => match us, hl with | [_], _ => rfl))
  l_odd := fn1 (fun_mk (st := s_l_odd) l18 c18 k18) (PySem.W.mg_of X G a18) ((fun_mk (st := s_l_odd) l18 c18 k18).binds (ps := ["bag"]) (fun _ _ _ _ _ _ us hl => match us, hl with | [_], _ => rfl))
  l_is_name := fn1 (fun_mk (st := s_l_is_name) l19 c19 k19) (PySem.W.mg_of X G a19) ((fun_mk (st := s_l_is_name) l19 c19 k19).binds (ps := ["thing"]) (fun _ _ _ _ _ _ us hl => match us, hl with | [_], _ => rfl))
  l_is_formula := fn1 (fun_mk (st := s_l_is_formula) l20 c20 k20) (PySem.W.mg_of X G a20) ((fun_mk (st := s_l_is_formula) l20 c20 k20).binds (ps := ["thing", "levels"]) (fun _ _ _ _ _ _ us hl => match us, hl with | [_, _], _ => rfl))
  l_is_set := fn1 (fun_mk (st := s_l_is_set) l21 c21 k21) (PySem.W.mg_of X G a21) ((fun_mk (st := s_l_is_set) l21 c21 k21).binds (ps := ["thing"]) (fun _ _ _ _ _ _ us hl => match us, hl with | [_], _ => rfl))
  l_depth := fn1 (fun_mk (st := s_l_depth) l22 c22 k22) (PySem.W.mg_of X G a22) ((fun_mk (st := s_l_depth) l22 c22 k22).binds (ps := ["formula"]) (fun _ _ _ _ _ _ us hl => match us, hl with | [_], _ => rfl))
  l_size := fn1 (fun_mk (st := s_l_size) l23 c23 k23) (PySem.W.mg_of X G a23) ((fun_mk (st := s_l_size) l23 c23 k23).binds (ps := ["formula"]) (fun _ _ _ _ _ _ us hl => match us, hl with | [_], _ => rfl))
  law := fn1 (fun_mk (st := s_law) l24 c24 k24) (PySem.W.mg_of X G a24) ((fun_mk (st := s_law) l24 c24 k24).binds (ps := ["script"]) (fun _ _ _ _ _ _ us hl => match us, hl with | [_], _ => rfl))
  n_abs := PySem.W.mg_none_of X G z0
  n_all := PySem.W.mg_none_of X G z1
  n_bool := PySem.W.mg_none_of X G z2
  n_int := PySem.W.mg_none_of X G z3
  n_isinstance := PySem.W.mg_none_of X G z4
  n_len := PySem.W.mg_none_of X G z5
  n_list := PySem.W.mg_none_of X G z6
  n_max := PySem.W.mg_none_of X G z7
  n_range := PySem.W.mg_none_of X G z8
  n_set := PySem.W.mg_none_of X G z9
  n_sorted := PySem.W.mg_none_of X G z10
  n_str := PySem.W.mg_none_of X G z11
  n_sum := PySem.W.mg_none_of X G z12
  n_tuple := PySem.W.mg_none_of X G z13
  n_zip := PySem.W.mg_none_of X G z14
  c_GIFT := con_str (PySem.W.mg_of X G g0)
  c_JOINS := con_tupS [("all", u1_0), ("any", u1_1)] (PySem.W.mg_of X G g1) e1 (Nat.le_of_ble_eq_true rfl)
  c_LETTERS := con_str (PySem.W.mg_of X G g2)
  c_MOST_DEPTH := con_int (PySem.W.mg_of X G g3)
  c_MOST_NAME := con_int (PySem.W.mg_of X G g4)
  c_MOST_PARTS := con_int (PySem.W.mg_of X G g5)
  c_RESERVED := con_tupS [("all", u6_0), ("any", u6_1), ("demand", u6_2), ("gift", u6_3), ("key", u6_4), ("lock", u6_5), ("party", u6_6), ("sleep", u6_7)] (PySem.W.mg_of X G g6) e6 (Nat.le_of_ble_eq_true rfl)
theorem law_end {P : Program} {w : World} {K : PySem.W.Frag} {mg : Str → Option Value} {fa : Addr} (hmg : mg "law" = some (.ref fa)) (T : Txt K w mg) : ∃ fd : FuncData, (∀ (s : Shared) (u : Value), BindsTo s fd ⟨[u], []⟩ [("script", u)]) ∧ ∀ base : Heap, K.In base → base.Ns mainGlobals mg → FnOk P w K mg base (L2.CX P w) 27 fa fd ["script"] (spLaw K) := by
  obtain rfl : fa = T.law.a := Value.ref.inj (Option.some.inj (hmg.symm.trans T.law.g))
  refine ⟨T.law.fd, fun s v => ?_, fun base _ _ => law_ok (ok_law T) good⟩
  obtain ⟨⟨oc, od, kV, doc, pm, an, cdv, ct, osl, e, l, c⟩, k⟩ := T.law.F
  rw [e]
  exact .of_eq rfl
end Lk01
open PySem PySem.W PyProof.Rows
set_option maxRecDepth 100000 in
set_option maxHeartbeats 0 in
theorem PySem.Challenge.cw_lockedgifts_k01_forms_of_values_and_form_holds : PySem.Challenge.rw_lockedgifts_k01_forms_of_values_and_form.Holds := by
  w_on; o_law; k_head; (case hw => w_witness2)
  k_fill
  refine L2.walk_of (l := PySem.Challenge.rw_lockedgifts_k01_forms_of_values_and_form) (n := 63) (k := 27) (x := "script") (CX := fun w => L2.CX PySem.Challenge.pw_lockedgifts_k01_forms_of_values_and_form w) (sp := fun w => RA.spLaw _) rfl (by decide) rfl ⟨rfl, by decide, by decide⟩ (fun w h Y => PySem.W.kIn_of Y) ?F (fun _ _ a ns hl hO hS => ⟨a, ns, rfl, hS, hl, hO, fun _ => rfl⟩) (fun _ _ _ _ _ h => RA.cx_no h)
  case F =>
    intro w mg fa h KX G hmg
    refine' Lk01.law_end hmg (Lk01.txt_mk KX G ?ya0 ?yl0 ?yc0 ?yk0 ?ya1 ?yl1 ?yc1 ?yk1 ?ya2 ?yl2 ?yc2 ?yk2 ?ya3 ?yl3 ?yc3 ?yk3 ?ya4 ?yl4 ?yc4 ?yk4 ?ya5 ?yl5 ?yc5 ?yk5 ?ya6 ?yl6 ?yc6 ?yk6 ?ya7 ?yl7 ?yc7 ?yk7 ?ya8 ?yl8 ?yc8 ?yk8 ?ya9 ?yl9 ?yc9 ?yk9 ?ya10 ?yl10 ?yc10 ?yk10 ?ya11 ?yl11 ?yc11 ?yk11 ?ya12 ?yl12 ?yc12 ?yk12 ?ya13 ?yl13 ?yc13 ?yk13 ?ya14 ?yl14 ?yc14 ?yk14 ?ya15 ?yl15 ?yc15 ?yk15 ?ya16 ?yl16 ?yc16 ?yk16 ?ya17 ?yl17 ?yc17 ?yk17 ?ya18 ?yl18 ?yc18 ?yk18 ?ya19 ?yl19 ?yc19 ?yk19 ?ya20 ?yl20 ?yc20 ?yk20 ?ya21 ?yl21 ?yc21 ?yk21 ?ya22 ?yl22 ?yc22 ?yk22 ?ya23 ?yl23 ?yc23 ?yk23 ?ya24 ?yl24 ?yc24 ?yk24 ?yz0 ?yz1 ?yz2 ?yz3 ?yz4 ?yz5 ?yz6 ?yz7 ?yz8 ?yz9 ?yz10 ?yz11 ?yz12 ?yz13 ?yz14 ?yg0 ?yg1 ?ye1 ?yg2 ?yg3 ?yg4 ?yg5 ?yg6 ?ye6)
    (case ya0 => k_is)
    (case yl0 => k_is)
    (case yc0 => k_is)
    (case yk0 => k_is)
    (case ya1 => k_is)
    (case yl1 => k_is)
    (case yc1 => k_is)
    (case yk1 => k_is)
    (case ya2 => k_is)
    (case yl2 => k_is)
    (case yc2 => k_is)
    (case yk2 => k_is)
    (case ya3 => k_is)
    (case yl3 => k_is)
    (case yc3 => k_is)
    (case yk3 => k_is)
    (case ya4 => k_is)
    (case yl4 => k_is)
    (case yc4 => k_is)
    (case yk4 => k_is)
    (case ya5 => k_is)
    (case yl5 => k_is)
    (case yc5 => k_is)
    (case yk5 => k_is)
    (case ya6 => k_is)
    (case yl6 => k_is)
    (case yc6 => k_is)
    (case yk6 => k_is)
    (case ya7 => k_is)
    (case yl7 => k_is)
    (case yc7 => k_is)
    (case yk7 => k_is)
    (case ya8 => k_is)
    (case yl8 => k_is)
    (case yc8 => k_is)
    (case yk8 => k_is)
    (case ya9 => k_is)
    (case yl9 => k_is)
    (case yc9 => k_is)
    (case yk9 => k_is)
    (case ya10 => k_is)
    (case yl10 => k_is)
    (case yc10 => k_is)
    (case yk10 => k_is)
    (case ya11 => k_is)
    (case yl11 => k_is)
    (case yc11 => k_is)
    (case yk11 => k_is)
    (case ya12 => k_is)
    (case yl12 => k_is)
    (case yc12 => k_is)
    (case yk12 => k_is)
    (case ya13 => k_is)
    (case yl13 => k_is)
    (case yc13 => k_is)
    (case yk13 => k_is)
    (case ya14 => k_is)
    (case yl14 => k_is)
    (case yc14 => k_is)
    (case yk14 => k_is)
    (case ya15 => k_is)
    (case yl15 => k_is)
    (case yc15 => k_is)
    (case yk15 => k_is)
    (case ya16 => k_is)
    (case yl16 => k_is)
    (case yc16 => k_is)
    (case yk16 => k_is)
    (case ya17 => k_is)
    (case yl17 => k_is)
    (case yc17 => k_is)
    (case yk17 => k_is)
    (case ya18 => k_is)
    (case yl18 => k_is)
    (case yc18 => k_is)
    (case yk18 => k_is)
    (case ya19 => k_is)
    (case yl19 => k_is)
    (case yc19 => k_is)
    (case yk19 => k_is)
    (case ya20 => k_is)
    (case yl20 => k_is)
    (case yc20 => k_is)
    (case yk20 => k_is)
    (case ya21 => k_is)
    (case yl21 => k_is)
    (case yc21 => k_is)
    (case yk21 => k_is)
    (case ya22 => k_is)
    (case yl22 => k_is)
    (case yc22 => k_is)
    (case yk22 => k_is)
    (case ya23 => k_is)
    (case yl23 => k_is)
    (case yc23 => k_is)
    (case yk23 => k_is)
    (case ya24 => k_is)
    (case yl24 => k_is)
    (case yc24 => k_is)
    (case yk24 => k_is)
    (case yz0 => k_is)
    (case yz1 => k_is)
    (case yz2 => k_is)
    (case yz3 => k_is)
    (case yz4 => k_is)
    (case yz5 => k_is)
    (case yz6 => k_is)
    (case yz7 => k_is)
    (case yz8 => k_is)
    (case yz9 => k_is)
    (case yz10 => k_is)
    (case yz11 => k_is)
    (case yz12 => k_is)
    (case yz13 => k_is)
    (case yz14 => k_is)
    (case yg0 => k_is)
    (case yg1 => k_is)
    (case ye1 => k_is)
    (case yg2 => k_is)
    (case yg3 => k_is)
    (case yg4 => k_is)
    (case yg5 => k_is)
    (case yg6 => k_is)
    (case ye6 => k_is)
